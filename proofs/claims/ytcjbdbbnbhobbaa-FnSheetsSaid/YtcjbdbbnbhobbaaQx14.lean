/- The functions that the seat's statements reach, as plain Lean functions, and that the program's calls answer what they say; no condition beyond the values read. Written by a program of this session's over the kit's print. -/
import Derived.Test.YtcjbdbbnbhobbaaQx0
import Derived.Test.YtcjbdbbnbhobbaaQx4
import Derived.Test.YtcjbdbbnbhobbaaQw14
namespace Go.Proofs.Ytcjbdbbnbhobbaa.Q
open Go.RowKit Go.Proofs.YtcjbdbbnbhobbaaW.PrintWords Go.Proofs.YtcjbdbbnbhobbaaW.PrintLast Go.Proofs.YtcjbdbbnbhobbaaW.PrintMore
attribute [local go_sem] max2_int min2_int max_two min_two max_three min_three max_four min_four   -- for this text's walks alone
set_option linter.unusedVariables false
set_option linter.unusedSimpArgs false

/-! ### impl_FewestStrips: function 17 -/
mutual
def impl_FewestStrips.l0 : Nat → List Int → Int → Int → List (S46) → Int → Option (Int)
 | 0, _, _, _, _, _ => none
 | k + 1, x0, x1, x5, x6, x7 => if 0 ≤ x5 then (if x7 < (shl .i64 1 x5) then (if 0 ≤ x7 then (if x7 < (x6.length : Int) then (impl_FewestStrips.l1 k x0 x1 x5 (x6.set (x7 : Int).toNat (⟨wrap64 (x5 + 1), 0⟩ : S46)) x7 x5 0) else (none)) else (none)) else (if 0 ≤ (wrap64 ((shl .i64 1 x5) - 1)) then (if (wrap64 ((shl .i64 1 x5) - 1)) < (x6.length : Int) then (some ((rd_T46 x6 (wrap64 ((shl .i64 1 x5) - 1))).f0)) else (none)) else (none))) else (none)
def impl_FewestStrips.l1 : Nat → List Int → Int → Int → List (S46) → Int → Int → Int → Option (Int)
 | 0, _, _, _, _, _, _, _ => none
 | k + 1, x0, x1, x5, x6, x7, x31, x32 => if x32 < x31 then (if 0 ≤ x32 then (if (Go.bits .and .i64 (shr .i64 x7 x32) 1) = 0 then (impl_FewestStrips.l1 k x0 x1 x5 x6 x7 x31 (wrap64 (x32 + 1))) else (if 0 ≤ (Go.bits .andNot .i64 x7 (shl .i64 1 x32)) then (if (Go.bits .andNot .i64 x7 (shl .i64 1 x32)) < (x6.length : Int) then (if ((rd_T46 x6 (Go.bits .andNot .i64 x7 (shl .i64 1 x32))).f0) > 0 then (if x32 < (x0.length : Int) then (impl_FewestStrips.j2 k x0 x1 x5 x6 x7 x32 x31 x32 (decide ((wrap64 (((rd_T46 x6 (Go.bits .andNot .i64 x7 (shl .i64 1 x32))).f1) + (rd x0 x32))) ≤ x1)) ((rd_T46 x6 (Go.bits .andNot .i64 x7 (shl .i64 1 x32))).f0) ((rd_T46 x6 (Go.bits .andNot .i64 x7 (shl .i64 1 x32))).f1)) else (none)) else (impl_FewestStrips.j2 k x0 x1 x5 x6 x7 x32 x31 x32 false ((rd_T46 x6 (Go.bits .andNot .i64 x7 (shl .i64 1 x32))).f0) ((rd_T46 x6 (Go.bits .andNot .i64 x7 (shl .i64 1 x32))).f1))) else (none)) else (none))) else (none)) else (impl_FewestStrips.l0 k x0 x1 x5 x6 (wrap64 (x7 + 1)))
def impl_FewestStrips.j2 : Nat → List Int → Int → Int → List (S46) → Int → Int → Int → Int → Bool → Int → Int → Option (Int)
 | 0, _, _, _, _, _, _, _, _, _, _, _ => none
 | k + 1, x0, x1, x5, x6, x7, x8, x31, x32, x60, x231000, x231001 => if x60 = true then (if 0 ≤ x8 then (if x8 < (x0.length : Int) then (if 0 ≤ x7 then (if x7 < (x6.length : Int) then (if x231000 < ((rd_T46 x6 x7).f0) then (impl_FewestStrips.l1 k x0 x1 x5 (x6.set (x7 : Int).toNat (⟨x231000, wrap64 (x231001 + (rd x0 x8))⟩ : S46)) x7 x31 (wrap64 (x32 + 1))) else (if x231000 = ((rd_T46 x6 x7).f0) then (if (wrap64 (x231001 + (rd x0 x8))) < ((rd_T46 x6 x7).f1) then (impl_FewestStrips.l1 k x0 x1 x5 (x6.set (x7 : Int).toNat (⟨x231000, wrap64 (x231001 + (rd x0 x8))⟩ : S46)) x7 x31 (wrap64 (x32 + 1))) else (impl_FewestStrips.l1 k x0 x1 x5 x6 x7 x31 (wrap64 (x32 + 1)))) else (impl_FewestStrips.l1 k x0 x1 x5 x6 x7 x31 (wrap64 (x32 + 1))))) else (none)) else (none)) else (none)) else (none)) else (if 0 ≤ x8 then (if x8 < (x0.length : Int) then (if 0 ≤ x7 then (if x7 < (x6.length : Int) then (if (wrap64 (x231000 + 1)) < ((rd_T46 x6 x7).f0) then (impl_FewestStrips.l1 k x0 x1 x5 (x6.set (x7 : Int).toNat (⟨wrap64 (x231000 + 1), rd x0 x8⟩ : S46)) x7 x31 (wrap64 (x32 + 1))) else (if (wrap64 (x231000 + 1)) = ((rd_T46 x6 x7).f0) then (if (rd x0 x8) < ((rd_T46 x6 x7).f1) then (impl_FewestStrips.l1 k x0 x1 x5 (x6.set (x7 : Int).toNat (⟨wrap64 (x231000 + 1), rd x0 x8⟩ : S46)) x7 x31 (wrap64 (x32 + 1))) else (impl_FewestStrips.l1 k x0 x1 x5 x6 x7 x31 (wrap64 (x32 + 1)))) else (impl_FewestStrips.l1 k x0 x1 x5 x6 x7 x31 (wrap64 (x32 + 1))))) else (none)) else (none)) else (none)) else (none))
end
def impl_FewestStrips.f (k : Nat) (l0 : List Int) (a1 : Int) : Option (Int) := (impl_LengthsOk.f l0 a1).bind fun t223 => (if t223 = true then (if 0 ≤ (shl .i64 1 (l0.length : Int)) then (if (shl .i64 1 (l0.length : Int) : Int).toNat ≤ 17592186044416 then (impl_FewestStrips.l0 k l0 a1 (l0.length : Int) (List.replicate (shl .i64 1 (l0.length : Int) : Int).toNat z46) 1) else (none)) else (none)) else (some (-1)))
theorem impl_FewestStrips.mono_l : ∀ k, (∀ y0 y1 y2 y3 y4, LeO (impl_FewestStrips.l0 k y0 y1 y2 y3 y4) (impl_FewestStrips.l0 (k + 1) y0 y1 y2 y3 y4)) ∧ (∀ y0 y1 y2 y3 y4 y5 y6, LeO (impl_FewestStrips.l1 k y0 y1 y2 y3 y4 y5 y6) (impl_FewestStrips.l1 (k + 1) y0 y1 y2 y3 y4 y5 y6)) ∧ (∀ y0 y1 y2 y3 y4 y5 y6 y7 y8 y9 y10, LeO (impl_FewestStrips.j2 k y0 y1 y2 y3 y4 y5 y6 y7 y8 y9 y10) (impl_FewestStrips.j2 (k + 1) y0 y1 y2 y3 y4 y5 y6 y7 y8 y9 y10))
 | 0 => ⟨fun _ _ _ _ _ r h => by simp [impl_FewestStrips.l0] at h, fun _ _ _ _ _ _ _ r h => by simp [impl_FewestStrips.l1] at h, fun _ _ _ _ _ _ _ _ _ _ _ r h => by simp [impl_FewestStrips.j2] at h⟩
 | k + 1 => by
  obtain ⟨ih0, ih1, ih2⟩ := impl_FewestStrips.mono_l k
  refine ⟨?_, ?_, ?_⟩
  ·intro y0 y1 y2 y3 y4
   unfold impl_FewestStrips.l0
   repeat' first
   | (with_reducible exact ih0 _ _ _ _ _)
   | (with_reducible exact ih1 _ _ _ _ _ _ _)
   | (with_reducible exact ih2 _ _ _ _ _ _ _ _ _ _ _)
   | (with_reducible exact LeO.refl _)
   | (with_reducible exact LeO.none _)
   | (with_reducible refine LeO.ite ?_ ?_)
   | (with_reducible refine LeO.bind ?_ (fun _ => ?_))
   | exact ih0 _ _ _ _ _
   | exact ih1 _ _ _ _ _ _ _
   | exact ih2 _ _ _ _ _ _ _ _ _ _ _
   | exact LeO.none _
   | refine LeO.ite ?_ ?_
   | refine LeO.bind ?_ (fun _ => ?_)
  ·intro y0 y1 y2 y3 y4 y5 y6
   unfold impl_FewestStrips.l1
   repeat' first
   | (with_reducible exact ih0 _ _ _ _ _)
   | (with_reducible exact ih1 _ _ _ _ _ _ _)
   | (with_reducible exact ih2 _ _ _ _ _ _ _ _ _ _ _)
   | (with_reducible exact LeO.refl _)
   | (with_reducible exact LeO.none _)
   | (with_reducible refine LeO.ite ?_ ?_)
   | (with_reducible refine LeO.bind ?_ (fun _ => ?_))
   | exact ih0 _ _ _ _ _
   | exact ih1 _ _ _ _ _ _ _
   | exact ih2 _ _ _ _ _ _ _ _ _ _ _
   | exact LeO.none _
   | refine LeO.ite ?_ ?_
   | refine LeO.bind ?_ (fun _ => ?_)
  ·intro y0 y1 y2 y3 y4 y5 y6 y7 y8 y9 y10
   unfold impl_FewestStrips.j2
   repeat' first
   | (with_reducible exact ih0 _ _ _ _ _)
   | (with_reducible exact ih1 _ _ _ _ _ _ _)
   | (with_reducible exact ih2 _ _ _ _ _ _ _ _ _ _ _)
   | (with_reducible exact LeO.refl _)
   | (with_reducible exact LeO.none _)
   | (with_reducible refine LeO.ite ?_ ?_)
   | (with_reducible refine LeO.bind ?_ (fun _ => ?_))
   | exact ih0 _ _ _ _ _
   | exact ih1 _ _ _ _ _ _ _
   | exact ih2 _ _ _ _ _ _ _ _ _ _ _
   | exact LeO.none _
   | refine LeO.ite ?_ ?_
   | refine LeO.bind ?_ (fun _ => ?_)
theorem impl_FewestStrips.mono : ∀ a0 a1 k, LeO (impl_FewestStrips.f k a0 a1) (impl_FewestStrips.f (k + 1) a0 a1) := by
 intro a0 a1 k
 obtain ⟨ih0, ih1, ih2⟩ := impl_FewestStrips.mono_l k
 unfold impl_FewestStrips.f
 repeat' first
   | (with_reducible exact ih0 _ _ _ _ _)
   | (with_reducible exact ih1 _ _ _ _ _ _ _)
   | (with_reducible exact ih2 _ _ _ _ _ _ _ _ _ _ _)
   | (with_reducible exact LeO.refl _)
   | (with_reducible exact LeO.none _)
   | (with_reducible refine LeO.ite ?_ ?_)
   | (with_reducible refine LeO.bind ?_ (fun _ => ?_))
   | exact ih0 _ _ _ _ _
   | exact ih1 _ _ _ _ _ _ _
   | exact ih2 _ _ _ _ _ _ _ _ _ _ _
   | exact LeO.none _
   | refine LeO.ite ?_ ?_
   | refine LeO.bind ?_ (fun _ => ?_)
def impl_FewestStrips.T14 : Bool × List (List Nat × List Nat) := (true, [([], []), ([0], [0]), ([1], [1]), ([2], [2]), ([3], [3]), ([4, 3], [3, 4]), ([3], [3]), ([3], [3]), ([6, 7, 3], [3, 6, 7]), ([8, 3], [3, 8]), ([5, 9, 3], [3, 5, 9]), ([3], [3]), ([10, 11, 3], [3, 10, 11]), ([3, 12], [3, 12])])
def impl_FewestStrips.B14 : List Nat := [0, 1, 3, 7, 15, 31, 15, 15, 207, 463, 1023, 15, 4095, 8191]
theorem impl_FewestStrips.tab14 : rtab .any (opsOf Try.f17 14) = impl_FewestStrips.T14 := by kernel_rfl
theorem impl_FewestStrips.bits14 : waitsOk impl_FewestStrips.T14.2 impl_FewestStrips.B14 = true := by kernel_rfl
def impl_FewestStrips.T15 : Bool × List (List Nat × List Nat) := (true, [([], []), ([0], [0]), ([], []), ([], []), ([2, 3], [2, 3]), ([4], [4]), ([1, 5], [1, 5]), ([0, 1, 2, 3, 4, 5, 6], []), ([7, 6, 0, 1, 2, 3, 4, 5, 6], [6, 7])])
def impl_FewestStrips.B15 : List Nat := [0, 1, 0, 0, 12, 28, 63, 127, 255]
theorem impl_FewestStrips.tab15 : rtab .any (opsOf Try.f17 15) = impl_FewestStrips.T15 := by kernel_rfl
theorem impl_FewestStrips.bits15 : waitsOk impl_FewestStrips.T15.2 impl_FewestStrips.B15 = true := by kernel_rfl
def impl_FewestStrips.T16 : Bool × List (List Nat × List Nat) := (true, [([], []), ([0], [0]), ([1], [1]), ([], []), ([], []), ([3, 4], [3, 4]), ([5], [5]), ([2, 6], [2, 6]), ([7, 0, 1, 2, 3, 4, 5, 6, 7], [7])])
def impl_FewestStrips.B16 : List Nat := [0, 1, 3, 0, 0, 24, 56, 127, 255]
theorem impl_FewestStrips.tab16 : rtab .any (opsOf Try.f17 16) = impl_FewestStrips.T16 := by kernel_rfl
theorem impl_FewestStrips.bits16 : waitsOk impl_FewestStrips.T16.2 impl_FewestStrips.B16 = true := by kernel_rfl
def impl_FewestStrips.T17 : Bool × List (List Nat × List Nat) := (true, [([], []), ([0], [0]), ([], []), ([], []), ([2, 3], [2, 3]), ([4], [4]), ([5], [5]), ([1, 6], [1, 6]), ([7], [7]), ([8], [8]), ([9, 8], [8, 9]), ([8], [8]), ([8], [8]), ([11, 12, 8], [8, 11, 12]), ([13, 8], [8, 13]), ([14, 8], [8, 14]), ([10, 15, 8], [8, 10, 15]), ([16, 8, 8], [8, 16]), ([17], [17]), ([18, 17], [17, 18]), ([17], [17]), ([17], [17]), ([20, 21, 17], [17, 20, 21]), ([22, 17], [17, 22]), ([23, 17], [17, 23]), ([19, 24, 17], [17, 19, 24]), ([17, 25, 8], [8, 17, 25]), ([8, 26], [8, 26])])
def impl_FewestStrips.B17 : List Nat := [0, 1, 0, 0, 12, 28, 60, 127, 255, 511, 1023, 511, 511, 6655, 14847, 31231, 65535, 131071, 262143, 524287, 262143, 262143, 3407871, 7602175, 15990783, 33554431, 67108863, 134217727]
theorem impl_FewestStrips.tab17 : rtab .any (opsOf Try.f17 17) = impl_FewestStrips.T17 := by kernel_rfl
theorem impl_FewestStrips.bits17 : waitsOk impl_FewestStrips.T17.2 impl_FewestStrips.B17 = true := by kernel_rfl
set_option maxHeartbeats 8000000 in
set_option maxRecDepth 100000 in
theorem impl_FewestStrips.calls (k : Nat) (A0 : Option Addr) (c0 : Nat) (l0 : List Int) (a1 : Int) (r : Int) (w : World) (hr0 : Kd.C (Kd.int .i64) w A0 l0.length l0) (hc0 : l0.length ≤ c0) (h : impl_FewestStrips.f k l0 a1 = some r) :
  Calls Try.prog 17 #[.slice A0 l0.length c0, .int .i64 a1] w fun e w' => e = .returned (.int .i64 r) ∧ Below w.heap.size w w' := by
 have hu46 := Try.underlying46
 have HR0 := Aside0.mk hr0
 have HC0 := Aside0.mk hc0
 clear hr0 hc0
 have HB := Aside0.mk (Below.refl w.heap.size w)
 have H : ((impl_LengthsOk.f l0 a1).bind fun t223 => (if t223 = true then (if 0 ≤ (shl .i64 1 (l0.length : Int)) then (if (shl .i64 1 (l0.length : Int) : Int).toNat ≤ 17592186044416 then (impl_FewestStrips.l0 k l0 a1 (l0.length : Int) (List.replicate (shl .i64 1 (l0.length : Int) : Int).toNat z46) 1) else (none)) else (none)) else (some (-1)))) = some r := h
 clear h
 replace H := Option.bind_eq_some_iff.mp H
 obtain ⟨t223, A30, H⟩ := H
 replace H : (if t223 = true then (if 0 ≤ (shl .i64 1 (l0.length : Int)) then (if (shl .i64 1 (l0.length : Int) : Int).toNat ≤ 17592186044416 then (impl_FewestStrips.l0 k l0 a1 (l0.length : Int) (List.replicate (shl .i64 1 (l0.length : Int) : Int).toNat z46) 1) else (none)) else (none)) else (some (-1))) = some r := H
 have A3 := Aside0.mk A30
 clear A30
 by_cases c4 : t223 = true
 ·subst c4
  have H1 : (if 0 ≤ (shl .i64 1 (l0.length : Int)) then (if (shl .i64 1 (l0.length : Int) : Int).toNat ≤ 17592186044416 then (impl_FewestStrips.l0 k l0 a1 (l0.length : Int) (List.replicate (shl .i64 1 (l0.length : Int) : Int).toNat z46) 1) else (none)) else (none)) = some r := by rw [if_pos rfl] at H; exact H
  clear H
  have H := H1
  clear H1
  obtain ⟨ji5, hji5⟩ : ∃ j_ : Int, (shl .i64 1 (l0.length : Int)) = j_ := ⟨_, rfl⟩
  replace H : (if 0 ≤ (ji5) then (if (ji5 : Int).toNat ≤ 17592186044416 then (impl_FewestStrips.l0 k l0 a1 (l0.length : Int) (List.replicate (ji5 : Int).toNat z46) 1) else (none)) else (none)) = some r := by first | (rw [hji5] at H; exact H) | (simp only [hji5] at H ⊢; exact H)
  (try rw [hji5] at A3)
  have hji5_ : (IntKind.i64.wrap (1 * 2 ^ min (l0.length : Int).toNat 64)) = ji5 := hji5
  have hji5z : (l0.length : Int) ≤ 64 → (IntKind.i64.wrap (1 * 2 ^ (l0.length : Int).toNat)) = ji5 := shl_small hji5
  have hji5p : (IntKind.i64.wrap (1 * 2 ^ min l0.length 64)) = ji5 := hji5_
  have hji5q : (l0.length : Int) ≤ 64 → (IntKind.i64.wrap (1 * 2 ^ l0.length)) = ji5 := hji5z
  have hji5r : (IntKind.i64.wrap (2 ^ min l0.length 64)) = ji5 := by have h_ := hji5p; rw [Int.one_mul] at h_; exact h_
  have hji5s : (l0.length : Int) ≤ 64 → (IntKind.i64.wrap (2 ^ l0.length)) = ji5 := fun hle_ => by have h_ := hji5q hle_; rw [Int.one_mul] at h_; exact h_
  have hji5u : (IntKind.i64.wrap (2 ^ min (l0.length : Int).toNat 64)) = ji5 := by have h_ := hji5_; rw [Int.one_mul] at h_; exact h_
  have hji5v : (l0.length : Int) ≤ 64 → (IntKind.i64.wrap (2 ^ (l0.length : Int).toNat)) = ji5 := fun hle_ => by have h_ := hji5z hle_; rw [Int.one_mul] at h_; exact h_
  have hji5y : (wrap64 (1 * 2 ^ min (l0.length : Int).toNat 64)) = ji5 := (i64_w _).symm.trans hji5_
  have hji5x : (l0.length : Int) ≤ 64 → (wrap64 (1 * 2 ^ (l0.length : Int).toNat)) = ji5 := fun h_ => (i64_w _).symm.trans (hji5z h_)
  by_cases c6 : 0 ≤ (ji5)
  ·rw [if_pos c6] at H
   have c6b0 := eq_true c6
   have c6b1 : decide (0 ≤ (ji5)) = true := decide_eq_true c6
   clear c6
   by_cases c7 : (ji5 : Int).toNat ≤ 17592186044416
   ·rw [if_pos c7] at H
    have c7b0 := eq_true c7
    have c7b1 : decide ((ji5 : Int).toNat ≤ 17592186044416) = true := decide_eq_true c7
    clear c7
    obtain ⟨y224, hy224⟩ : ∃ y_ : List (S46), y_ = (List.replicate (ji5 : Int).toNat z46) := ⟨_, rfl⟩
    replace H : (impl_FewestStrips.l0 k l0 a1 (l0.length : Int) y224 1) = some r := by first | (rw [hy224]; with_reducible exact H) | (have H2_ := (Option.bind_some _ _).symm.trans H; rw [hy224]; with_reducible exact H2_) | (have H2_ := (Option.bind_some _ _).symm.trans H; with_reducible exact H2_) | with_reducible exact H | (rw [hy224]; exact H) | exact H
    have Ny224 := Aside0.mk hy224
    clear hy224
    have H' := Aside0.mk H
    clear H
    go_enter Try.func17, Try.ntmps17
    go_wp2_with (first | ((with_reducible refine gate_callee (f := 12) rfl ?_); refine goesL_ (some 12) rfl rfl Try.func12 (by kernel_rfl) rfl #[.slice A0 l0.length c0, .int .i64 a1] rfl (by (try simp only [List.map_toArray, List.map_cons, List.map_nil]); first | done | rfl | (simp only [List.length_drop, List.length_take]; rfl)) ?_; (with_reducible refine (impl_LengthsOk.calls _ _ l0 a1 true _ ?side1 ?side2 A3.out).mono ?_); (case side1 => repeat (first | exact HR0.out | (with_reducible refine Kd.C_alloc ?_ _) | (with_reducible refine Kd.C_drewN ?_ _) | (with_reducible refine Kd.C_drew ?_))); (case side2 => exact HC0.out); rintro e w8 ⟨rfl, hb⟩; refine ⟨_, rfl, ?_⟩; have n0_ := Aside0.mk (below_step (by repeat (first | (with_reducible first | exact HB.out | apply below_alloc | apply pw_below_drewN | apply below_drew1) | exact HB.out)) hb); clear HB; have HB := n0_; clear n0_; (try clear hb); (try clear hb2); (try clear hk); (try clear hi)) | ((with_reducible refine gate_dst (N := 18) rfl ?_); refine Kd.R_make k46 _ 46 rfl (N := 18) rfl 44 _ _ rfl ji5 rfl rfl Try.underlying44 (.agg #[(.int .i64 0), (.int .i64 0)]) 16 info46 rfl (by decide) (by omega) z46 (ok := fun _ => True) (okp := fun _ => True) (k46_mkM _ _ _ z46 ) (fun _ hk => hk) trivial (of_decide_eq_true (by first | (with_reducible assumption) | assumption)) (Nat.le_trans (Nat.mul_le_mul_right _ (of_decide_eq_true (by first | (with_reducible assumption) | assumption) : ji5.toNat ≤ 17592186044416)) (by omega)) (Below.refl _ _) (Nat.le_refl _) ?_; intro v225 w9 ho10 hb hg_ hnew_; clear hg_ hnew_; (first | rw [← Ny224.out] at ho10 | (simp only [Int.reduceToNat] at ho10; rw [← Ny224.out] at ho10)); have n0_ := Aside0.mk (Kd.R_lower ho10 (below_size (by repeat (first | (with_reducible first | exact HB.out | apply below_alloc | apply pw_below_drewN | apply below_drew1) | exact HB.out)))); have n1_ := Aside0.mk (below_step (by repeat (first | (with_reducible first | exact HB.out | apply below_alloc | apply pw_below_drewN | apply below_drew1) | exact HB.out)) hb); clear HB; have HO226 := n0_; have HB := n1_; clear n0_ n1_; clear hb ho10))
    go_loopg [7] k (fun kq v7 w' => ∃ (x6_1 : List (S46)) (x7_1 : Int), v7 = .int .i64 x7_1 ∧ Aside0 (impl_FewestStrips.l0 kq l0 a1 (l0.length : Int) x6_1 x7_1 = some r) ∧ Aside0 (kq ≤ k) ∧ Aside0 (Kd.R k46 46 w' w.heap.size (fun _ => True) v225 x6_1) ∧ Aside0 (Below w.heap.size w w'))
    case atStart => exact ⟨(y224), (1), (by first | rfl | (simp; done) | (simp [*]; done)), H', ⟨Nat.le_refl _⟩, ⟨by (with_reducible repeat (first | apply Kd.R_alloc | apply Kd.R_drewN | apply Kd.R_drew)); exact HO226.out⟩, ⟨by repeat (first | (with_reducible first | exact HB.out | apply below_alloc | apply pw_below_drewN | apply below_drew1) | exact HB.out)⟩⟩
    case round =>
     clear H'
     try clear c1
     try clear p2
     try clear c4
     try clear c6
     try clear p6
     try clear c7
     try clear c7b0
     try clear c7b1
     obtain ⟨x6_1, x7_1, rfl, HA, HK1, HO_6, HB⟩ := hrel
     cases gk with
     | zero => exact absurd HA.out (by simp [impl_FewestStrips.l0])
     | succ k1 =>
      have H := HA.out
      clear HA
      simp only [impl_FewestStrips.l0] at H
      by_cases c11 : 0 ≤ (l0.length : Int)
      ·rw [if_pos c11] at H
       have c11b0 := eq_true c11
       have c11b1 : decide (0 ≤ (l0.length : Int)) = true := decide_eq_true c11
       clear c11
       replace H : (if x7_1 < (ji5) then (if 0 ≤ x7_1 then (if x7_1 < (x6_1.length : Int) then (impl_FewestStrips.l1 k1 l0 a1 (l0.length : Int) (x6_1.set (x7_1 : Int).toNat (⟨wrap64 ((l0.length : Int) + 1), 0⟩ : S46)) x7_1 (l0.length : Int) 0) else (none)) else (none)) else (if 0 ≤ (wrap64 ((ji5) - 1)) then (if (wrap64 ((ji5) - 1)) < (x6_1.length : Int) then (some ((rd_T46 x6_1 (wrap64 ((ji5) - 1))).f0)) else (none)) else (none))) = some r := by first | (rw [hji5] at H; exact H) | (simp only [hji5] at H ⊢; exact H)
       by_cases c13 : x7_1 < (ji5)
       ·rw [if_pos c13] at H
        have c13b0 : decide (x7_1 < (ji5)) = true := decide_eq_true c13
        clear c13
        by_cases c14 : 0 ≤ x7_1
        ·rw [if_pos c14] at H
         have c14b0 : decide (0 ≤ x7_1) = true := decide_eq_true c14
         clear c14
         by_cases c15 : x7_1 < (x6_1.length : Int)
         ·rw [if_pos c15] at H
          have c15b0 : decide (x7_1 < (x6_1.length : Int)) = true := decide_eq_true c15
          clear c15
          obtain ⟨y228, hy228⟩ : ∃ y_ : List (S46), y_ = (x6_1.set (x7_1 : Int).toNat (⟨wrap64 ((l0.length : Int) + 1), 0⟩ : S46)) := ⟨_, rfl⟩
          replace H : (impl_FewestStrips.l1 k1 l0 a1 (l0.length : Int) y228 x7_1 (l0.length : Int) 0) = some r := by first | (rw [hy228]; with_reducible exact H) | (have H2_ := (Option.bind_some _ _).symm.trans H; rw [hy228]; with_reducible exact H2_) | (have H2_ := (Option.bind_some _ _).symm.trans H; with_reducible exact H2_) | with_reducible exact H | (rw [hy228]; exact H) | exact H
          have Ny228 := Aside0.mk hy228
          clear hy228
          have H' := Aside0.mk H
          clear H
          have p16 : 0 ≤ (x7_1 : Int) := of_decide_eq_true (by first | (with_reducible assumption) | assumption)
          have q16 : (x7_1 : Int) < ((x6_1.length : Int) : Int) := of_decide_eq_true (by first | (with_reducible assumption) | assumption)
          obtain ⟨go16, co16, eo16, gb16, gl16, cl16, HG16⟩ := Kd.R_form HO_6.out (by omega)
          (first | cases eo16 | (injection eo16 with ea_ en_ ec_; (first | subst ea_ | (injection ea_ with ea_; subst ea_)); subst ec_; clear en_))
          have GB16 := Aside0.mk gb16
          have GG16 := Aside0.mk HG16
          clear gb16 gl16 HG16
          obtain ⟨ce16, hcl16, hM16, hcc16, hfr16⟩ := Kd.R_elem HO_6.out z46 (x7_1 : Int) p16 q16
          obtain rfl := k46_openM hM16
          have hx16_0 : wr.cell? ⟨go16, (x7_1 : Int).toNat * 2, none⟩ = some (.int .i64 ((rd_T46 x6_1 x7_1).f0)) := hcc16 0 _ rfl
          have hx16_1 : wr.cell? ⟨go16, (x7_1 : Int).toNat * 2 + 1, none⟩ = some (.int .i64 ((rd_T46 x6_1 x7_1).f1)) := hcc16 1 _ rfl
          have hf16_0 : wr.frozen? ⟨go16, (x7_1 : Int).toNat * 2, none⟩ = false := hfr16 0
          have hf16_1 : wr.frozen? ⟨go16, (x7_1 : Int).toNat * 2 + 1, none⟩ = false := hfr16 1
          clear hcl16 hcc16 hfr16; (try clear hM16)
          replace p16 := eq_true p16
          replace q16 := eq_true q16
          have HX17 := Aside0.mk (show Kd.R k46 46 wr w.heap.size (fun _ => True) (.slice (some ⟨go16, 0, none⟩) x6_1.length co16) x6_1 from (by (with_reducible repeat (first | apply Kd.R_alloc | apply Kd.R_drewN | apply Kd.R_drew)); exact HO_6.out))
          obtain ⟨ce17, hcl17, hM17, hcc17, hfr17⟩ := Kd.R_elem HX17.out z46 (x7_1 : Int) (of_decide_eq_true (by first | (with_reducible assumption) | assumption)) (by have h_ : (x7_1 : Int) < ((x6_1.length : Int) : Int) := of_decide_eq_true (by first | (with_reducible assumption) | assumption); first | exact h_ | (have e_ := (Kd.R_reads' HO_6.out).1; omega) | simpa using h_)
          obtain rfl := k46_openM hM17
          have HP17 := Kd.R_seg HX17.out (x7_1 : Int) (of_decide_eq_true (by first | (with_reducible assumption) | assumption)) (by have h_ : (x7_1 : Int) < ((x6_1.length : Int) : Int) := of_decide_eq_true (by first | (with_reducible assumption) | assumption); first | exact h_ | (have e_ := (Kd.R_reads' HO_6.out).1; omega) | simpa using h_) (seg := [.int .i64 (wrap64 ((l0.length : Int) + 1)), .int .i64 0]) (j := 0) hcl17 hcc17 (show 2 ≤ 2 from by decide) (x' := (⟨wrap64 ((l0.length : Int) + 1), 0⟩ : S46)) (k46_mkM _ _ _ (⟨wrap64 ((l0.length : Int) + 1), 0⟩ : S46) ) (fun _ hk => hk)
          have hx17_0 := hcc17 0 _ rfl
          (try simp only [show (k46).sz = 2 from rfl, Nat.mul_one, Nat.add_zero] at hx17_0)
          have hf17_0 := hfr17 0
          (try simp only [show (k46).sz = 2 from rfl, Nat.mul_one, Nat.add_zero] at hf17_0)
          have hx17_1 := hcc17 1 _ rfl
          (try simp only [show (k46).sz = 2 from rfl, Nat.mul_one, Nat.add_zero] at hx17_1)
          have hf17_1 := hfr17 1
          (try simp only [show (k46).sz = 2 from rfl, Nat.mul_one, Nat.add_zero] at hf17_1)
          clear hcl17 hcc17 hfr17; (try clear hM17)
          go_wp2_with (first | ((with_reducible refine gate_store (t := 46) (p := 30) rfl ?_); refine store_event (t := 46) (p := 30) (v := ?vo_w18) (w1 := ((wr.setCell ⟨go16, (x7_1 : Int).toNat * 2, none⟩ (.int .i64 (wrap64 ((l0.length : Int) + 1)))).setCell ⟨go16, (x7_1 : Int).toNat * 2 + 1, none⟩ (.int .i64 0))) ?hg ?ho ?hn ?hr ?_; (case ho => rfl); (case hg => rfl); (case hn => rfl); (case hr => first | (go_simp; done) | (go_simp; rfl)); intro w18 hw; have hg : wr.grownBy w18 (some go16) := (by rw [hw]; exact HP17.2); have hp_ : Kd.R k46 46 w18 w.heap.size (fun _ => True) (.slice (some ⟨go16, 0, none⟩) x6_1.length co16) y228 := (by rw [hw, Ny228.out]; exact HP17.1); clear HP17; have n0_ := Aside0.mk (hp_); have n1_ := Aside0.mk ((by rw [hw]; exact below_set (below_set (HB.out) GB16.out) GB16.out : Below w.heap.size w w18)); clear HO_6; clear HB; have HO_6 := n0_; have HB := n1_; clear n0_ n1_; clear hg hw hp_))
          go_loopg [32] k1 (fun kq v32 w' => ∃ (x6_2 : List (S46)) (x32_2 : Int), v32 = .int .i64 x32_2 ∧ Aside0 (impl_FewestStrips.l1 kq l0 a1 (l0.length : Int) x6_2 x7_1 (l0.length : Int) x32_2 = some r) ∧ Aside0 (kq ≤ k1) ∧ Aside0 (Kd.R k46 46 w' w.heap.size (fun _ => True) (.slice (some ⟨go16, 0, none⟩) x6_1.length co16) x6_2) ∧ Aside0 (Below w.heap.size w w'))
          case atStart => exact ⟨(y228), (0), (by first | rfl | (simp; done) | (simp [*]; done)), H', ⟨Nat.le_refl _⟩, ⟨by (with_reducible repeat (first | apply Kd.R_alloc | apply Kd.R_drewN | apply Kd.R_drew)); exact HO_6.out⟩, ⟨by repeat (first | (with_reducible first | exact HB.out | apply below_alloc | apply pw_below_drewN | apply below_drew1) | exact HB.out)⟩⟩
          case round =>
           clear H'
           try clear c1
           try clear p1
           try clear q1
           try clear hx1
           try clear p2
           try clear c4
           try clear c6
           try clear p6
           try clear c7
           try clear c7b0
           try clear c7b1
           try clear c11
           try clear c11b0
           try clear c11b1
           try clear c12
           try clear c13
           try clear c13b0
           try clear c14
           try clear c14b0
           try clear c15
           try clear c15b0
           try clear c16
           try clear p16
           try clear q16
           try clear hx16
           try clear hf16
           try clear c17
           try clear hx17
           try clear hf17
           try clear hx16_0
           try clear hx16_1
           try clear hx17_0
           try clear hx17_1
           try clear p16
           try clear p2
           try clear p6
           try clear q16
           obtain ⟨x6_2, x32_2, rfl, HA, HK2, HO_6, HB⟩ := hrel
           have hl6_2 := (Kd.R_reads' HO_6.out).1
           rw [hl6_2] at HO_6
           (try simp only [hl6_2])
           cases gk with
           | zero => exact absurd HA.out (by simp [impl_FewestStrips.l1])
           | succ k2 =>
            have H := HA.out
            clear HA
            simp only [impl_FewestStrips.l1] at H
            by_cases c19 : x32_2 < (l0.length : Int)
            ·rw [if_pos c19] at H
             have c19b0 : decide (x32_2 < (l0.length : Int)) = true := decide_eq_true c19
             clear c19
             by_cases c20 : 0 ≤ x32_2
             ·rw [if_pos c20] at H
              have c20b0 := eq_true c20
              have c20b1 : decide (0 ≤ x32_2) = true := decide_eq_true c20
              clear c20
              obtain ⟨ji21, hji21⟩ : ∃ j_ : Int, (shr .i64 x7_1 x32_2) = j_ := ⟨_, rfl⟩
              replace H : (if (Go.bits .and .i64 (ji21) 1) = 0 then (impl_FewestStrips.l1 k2 l0 a1 (l0.length : Int) x6_2 x7_1 (l0.length : Int) (wrap64 (x32_2 + 1))) else (if 0 ≤ (Go.bits .andNot .i64 x7_1 (shl .i64 1 x32_2)) then (if (Go.bits .andNot .i64 x7_1 (shl .i64 1 x32_2)) < (x6_2.length : Int) then (if ((rd_T46 x6_2 (Go.bits .andNot .i64 x7_1 (shl .i64 1 x32_2))).f0) > 0 then (if x32_2 < (l0.length : Int) then (impl_FewestStrips.j2 k2 l0 a1 (l0.length : Int) x6_2 x7_1 x32_2 (l0.length : Int) x32_2 (decide ((wrap64 (((rd_T46 x6_2 (Go.bits .andNot .i64 x7_1 (shl .i64 1 x32_2))).f1) + (rd l0 x32_2))) ≤ a1)) ((rd_T46 x6_2 (Go.bits .andNot .i64 x7_1 (shl .i64 1 x32_2))).f0) ((rd_T46 x6_2 (Go.bits .andNot .i64 x7_1 (shl .i64 1 x32_2))).f1)) else (none)) else (impl_FewestStrips.j2 k2 l0 a1 (l0.length : Int) x6_2 x7_1 x32_2 (l0.length : Int) x32_2 false ((rd_T46 x6_2 (Go.bits .andNot .i64 x7_1 (shl .i64 1 x32_2))).f0) ((rd_T46 x6_2 (Go.bits .andNot .i64 x7_1 (shl .i64 1 x32_2))).f1))) else (none)) else (none))) = some r := by first | (rw [hji21] at H; exact H) | (simp only [hji21] at H ⊢; exact H)
              have hji21_ : (x7_1 / 2 ^ min x32_2.toNat 64) = ji21 := hji21
              have hji21z : x32_2 ≤ 64 → (x7_1 / 2 ^ x32_2.toNat) = ji21 := shr_small hji21
              by_cases c22 : (Go.bits .and .i64 (ji21) 1) = 0
              ·rw [if_pos c22] at H
               have c22b0 : ((Go.bits .and .i64 (ji21) 1) == 0) = true := beq_iff_eq.mpr c22
               have c22b1 : ((Go.bits .and .i64 (ji21) 1) != 0) = false := bne_eq_false_iff_eq.mpr c22
               clear c22
               have H' := Aside0.mk H
               clear H
               go_wp2
               (try simp only [← hl6_2])
               go_roundg k2
               case measure => have := HK1.out; have := HK2.out; omega
               case rel => exact ⟨(x6_2), (wrap64 (x32_2 + 1)), (by first | rfl | (simp; done) | (simp [*]; done)), H', ⟨by have := HK1.out; have := HK2.out; omega⟩, ⟨by (try simp only [hl6_2]); (with_reducible repeat (first | apply Kd.R_alloc | apply Kd.R_drewN | apply Kd.R_drew)); exact HO_6.out⟩, ⟨by repeat (first | (with_reducible first | exact HB.out | apply below_alloc | apply pw_below_drewN | apply below_drew1) | exact HB.out)⟩⟩
              ·rw [if_neg c22] at H
               have c22b0 : ((Go.bits .and .i64 (ji21) 1) == 0) = false := beq_eq_false_iff_ne.mpr c22
               have c22b1 : ((Go.bits .and .i64 (ji21) 1) != 0) = true := bne_iff_ne.mpr c22
               have c23b0 := eq_true (of_decide_eq_true (by first | (with_reducible assumption) | assumption) : 0 ≤ x32_2)
               obtain ⟨ji24, hji24⟩ : ∃ j_ : Int, (shl .i64 1 x32_2) = j_ := ⟨_, rfl⟩
               replace H : (if 0 ≤ (Go.bits .andNot .i64 x7_1 (ji24)) then (if (Go.bits .andNot .i64 x7_1 (ji24)) < (x6_2.length : Int) then (if ((rd_T46 x6_2 (Go.bits .andNot .i64 x7_1 (ji24))).f0) > 0 then (if x32_2 < (l0.length : Int) then (impl_FewestStrips.j2 k2 l0 a1 (l0.length : Int) x6_2 x7_1 x32_2 (l0.length : Int) x32_2 (decide ((wrap64 (((rd_T46 x6_2 (Go.bits .andNot .i64 x7_1 (ji24))).f1) + (rd l0 x32_2))) ≤ a1)) ((rd_T46 x6_2 (Go.bits .andNot .i64 x7_1 (ji24))).f0) ((rd_T46 x6_2 (Go.bits .andNot .i64 x7_1 (ji24))).f1)) else (none)) else (impl_FewestStrips.j2 k2 l0 a1 (l0.length : Int) x6_2 x7_1 x32_2 (l0.length : Int) x32_2 false ((rd_T46 x6_2 (Go.bits .andNot .i64 x7_1 (ji24))).f0) ((rd_T46 x6_2 (Go.bits .andNot .i64 x7_1 (ji24))).f1))) else (none)) else (none)) = some r := by first | (rw [hji24] at H; exact H) | (simp only [hji24] at H ⊢; exact H)
               have hji24_ : (IntKind.i64.wrap (1 * 2 ^ min x32_2.toNat 64)) = ji24 := hji24
               have hji24z : x32_2 ≤ 64 → (IntKind.i64.wrap (1 * 2 ^ x32_2.toNat)) = ji24 := shl_small hji24
               have hji24u : (IntKind.i64.wrap (2 ^ min x32_2.toNat 64)) = ji24 := by have h_ := hji24_; rw [Int.one_mul] at h_; exact h_
               have hji24v : x32_2 ≤ 64 → (IntKind.i64.wrap (2 ^ x32_2.toNat)) = ji24 := fun hle_ => by have h_ := hji24z hle_; rw [Int.one_mul] at h_; exact h_
               have hji24y : (wrap64 (1 * 2 ^ min x32_2.toNat 64)) = ji24 := (i64_w _).symm.trans hji24_
               have hji24x : x32_2 ≤ 64 → (wrap64 (1 * 2 ^ x32_2.toNat)) = ji24 := fun h_ => (i64_w _).symm.trans (hji24z h_)
               by_cases c25 : 0 ≤ (Go.bits .andNot .i64 x7_1 (ji24))
               ·rw [if_pos c25] at H
                have c25b0 : decide (0 ≤ (Go.bits .andNot .i64 x7_1 (ji24))) = true := decide_eq_true c25
                clear c25
                by_cases c26 : (Go.bits .andNot .i64 x7_1 (ji24)) < (x6_2.length : Int)
                ·rw [if_pos c26] at H
                 have c26b0 : decide ((Go.bits .andNot .i64 x7_1 (ji24)) < (x6_2.length : Int)) = true := decide_eq_true c26
                 clear c26
                 have HC27 := Aside0.mk H
                 clear H
                 have p229 : 0 ≤ ((Go.bits .andNot .i64 x7_1 (ji24)) : Int) := of_decide_eq_true (by first | (with_reducible assumption) | assumption)
                 have q229 : (Go.bits .andNot .i64 x7_1 (ji24)) < (x6_2.length : Int) := of_decide_eq_true (by first | (with_reducible assumption) | assumption)
                 obtain ⟨ad229, e229, hx229_0, hx229_1⟩ := at_T46 (Kd.R_reads' HO_6.out).2.2 (Go.bits .andNot .i64 x7_1 (ji24)) p229 q229
                 obtain rfl : (⟨go16, 0, none⟩ : Addr) = ad229 := (by injection e229)
                 (first | simp only [add_plain] at hx229_0 | simp only [add_at] at hx229_0 | simp only [Addr.add, Nat.zero_add] at hx229_0 | skip)
                 (first | simp only [add_plain] at hx229_1 | simp only [add_at] at hx229_1 | simp only [Addr.add, Nat.zero_add] at hx229_1 | skip)
                 replace p229 := eq_true p229
                 replace q229 := eq_true q229
                 go_upto_region 14 with (first | ((with_reducible refine gate_dst (N := 9) rfl ?_); refine box_event ?hg (N := 9) ?hd (cs := #[.int .i64 0, .int .i64 0]) (t := 46) ?hr ?_; (case hd => rfl); (case hg => rfl); (case hr => first | (go_simp; done) | (go_simp; rfl)); intro gb230 hg w28 hbox hb; have n0_ := Aside0.mk (Kd.R_below (Kd.R_elderB (by (with_reducible repeat (first | apply Kd.R_alloc | apply Kd.R_drewN | apply Kd.R_drew)); exact HO_6.out) gb230 (Nat.le_of_eq hg.symm)) hb); have n1_ := Aside0.mk (below_step (by repeat (first | (with_reducible first | exact HB.out | apply below_alloc | apply pw_below_drewN | apply below_drew1) | exact HB.out)) hb); have n2_ := Aside0.mk (hbox); have n3_ := Aside0.mk ((by rw [hg]; exact (below_size (by repeat (first | (with_reducible first | exact HB.out | apply below_alloc | apply pw_below_drewN | apply below_drew1) | exact HB.out))) : w.heap.size ≤ gb230)); have n4_ := Aside0.mk ((by rw [hg]; exact (below_size (by repeat (first | (with_reducible first | exact HB.out | apply below_alloc | apply pw_below_drewN | apply below_drew1) | exact HB.out))) : w.heap.size ≤ gb230)); clear HO_6; clear HB; have HO_6 := n0_; have HB := n1_; have BK230 := n2_; have GW230 := n3_; have GE230 := n4_; clear n0_ n1_ n2_ n3_ n4_; clear hb hbox hg; have hcz29_0 : w28.cell? ⟨gb230, 0, none⟩ = some (.int .i64 0) := (blk_cell BK230.out 0).trans rfl; have hcz29_1 : w28.cell? ⟨gb230, 1, none⟩ = some (.int .i64 0) := (blk_cell BK230.out 1).trans rfl; have hfz29_0 := blk_frozen BK230.out 0; have hfz29_1 := blk_frozen BK230.out 1))
                 (try simp only [Act.put, List.setIfInBounds_toArray, List.set_cons_zero, List.set_cons_succ])
                 go_cut [60] (fun v60 wc => ∃ (kq : Nat) (x60_26 : Bool), v60 = .bool x60_26 ∧ Aside0 (impl_FewestStrips.j2 kq l0 a1 (l0.length : Int) x6_2 x7_1 x32_2 (l0.length : Int) x32_2 x60_26 ((rd_T46 x6_2 (Go.bits .andNot .i64 x7_1 (ji24))).f0) ((rd_T46 x6_2 (Go.bits .andNot .i64 x7_1 (ji24))).f1) = some r) ∧ Aside0 (kq ≤ k2) ∧ Aside0 (Kd.R k46 46 wc w.heap.size (fun k_ => k_ ≠ gb230) (.slice (some ⟨go16, 0, none⟩) x6_2.length co16) x6_2) ∧ Aside0 (wc.heap[gb230]? = some (.cells #[.int .i64 ((rd_T46 x6_2 (Go.bits .andNot .i64 x7_1 (ji24))).f0), .int .i64 ((rd_T46 x6_2 (Go.bits .andNot .i64 x7_1 (ji24))).f1)] 46 (0, 0))) ∧ Aside0 (Below w.heap.size w wc))
                 case first =>
                  have H := HC27.out
                  clear HC27
                  by_cases c30 : ((rd_T46 x6_2 (Go.bits .andNot .i64 x7_1 (ji24))).f0) > 0
                  ·rw [if_pos c30] at H
                   have c30b0 : decide (0 < ((rd_T46 x6_2 (Go.bits .andNot .i64 x7_1 (ji24))).f0)) = true := decide_eq_true c30
                   clear c30
                   (first | rw [c30b0] | (simp only [i64_w, i32_w]; rw [c30b0]) | skip)
                   by_cases c31 : x32_2 < (l0.length : Int)
                   ·rw [if_pos c31] at H
                    have c31b0 : decide (x32_2 < (l0.length : Int)) = true := decide_eq_true c31
                    clear c31
                    have H' := Aside0.mk H
                    clear H
                    try go_wp2
                    have n0_ : Aside0 (Kd.R k46 46 ((w28.setCell ⟨gb230, 0, none⟩ (.int .i64 ((rd_T46 x6_2 (Go.bits .andNot .i64 x7_1 (ji24))).f0))).setCell ⟨gb230, 1, none⟩ (.int .i64 ((rd_T46 x6_2 (Go.bits .andNot .i64 x7_1 (ji24))).f1))) w.heap.size (fun k_ => k_ ≠ gb230) (.slice (some ⟨go16, 0, none⟩) x6_2.length co16) x6_2) := ⟨by (with_reducible repeat (first | apply Kd.R_alloc | apply Kd.R_drewN | apply Kd.R_drew)); exact Kd.R_mono (Kd.R_far (p := ⟨gb230, 1, none⟩) (Kd.R_far (p := ⟨gb230, 0, none⟩) (Kd.R_mono HO_6.out (fun k_ hk => (⟨hk, hk.2⟩ : _ ∧ k_ ≠ gb230))) (fun _ hk => hk.2) (.int .i64 ((rd_T46 x6_2 (Go.bits .andNot .i64 x7_1 (ji24))).f0))) (fun _ hk => hk.2) (.int .i64 ((rd_T46 x6_2 (Go.bits .andNot .i64 x7_1 (ji24))).f1))) (fun _ hk => hk.1.2)⟩
                    have n1_ : Aside0 (((w28.setCell ⟨gb230, 0, none⟩ (.int .i64 ((rd_T46 x6_2 (Go.bits .andNot .i64 x7_1 (ji24))).f0))).setCell ⟨gb230, 1, none⟩ (.int .i64 ((rd_T46 x6_2 (Go.bits .andNot .i64 x7_1 (ji24))).f1))).heap[gb230]? = some (.cells #[.int .i64 ((rd_T46 x6_2 (Go.bits .andNot .i64 x7_1 (ji24))).f0), .int .i64 ((rd_T46 x6_2 (Go.bits .andNot .i64 x7_1 (ji24))).f1)] 46 (0, 0))) := ⟨by (with_reducible repeat (first | refine blk_drewN ?_ _ | refine blk_drew ?_ | refine blk_alloc ?_ _)); refine blk_put (cs := #[.int .i64 ((rd_T46 x6_2 (Go.bits .andNot .i64 x7_1 (ji24))).f0), .int .i64 0]) ?_ 1 _ rfl; (with_reducible repeat (first | refine blk_drewN ?_ _ | refine blk_drew ?_ | refine blk_alloc ?_ _)); refine blk_put (cs := #[.int .i64 0, .int .i64 0]) ?_ 0 _ rfl; (with_reducible repeat (first | refine blk_drewN ?_ _ | refine blk_drew ?_ | refine blk_alloc ?_ _)); exact BK230.out⟩
                    have n2_ : Aside0 (Below w.heap.size w ((w28.setCell ⟨gb230, 0, none⟩ (.int .i64 ((rd_T46 x6_2 (Go.bits .andNot .i64 x7_1 (ji24))).f0))).setCell ⟨gb230, 1, none⟩ (.int .i64 ((rd_T46 x6_2 (Go.bits .andNot .i64 x7_1 (ji24))).f1)))) := ⟨by repeat (first | (with_reducible first | exact HB.out | apply below_alloc | apply pw_below_drewN | apply below_drew1 | refine below_set ?_ GE230.out) | exact HB.out)⟩
                    (try clear HO_6)
                    (try clear BK230)
                    (try clear HB)
                    generalize ((w28.setCell ⟨gb230, 0, none⟩ (.int .i64 ((rd_T46 x6_2 (Go.bits .andNot .i64 x7_1 (ji24))).f0))).setCell ⟨gb230, 1, none⟩ (.int .i64 ((rd_T46 x6_2 (Go.bits .andNot .i64 x7_1 (ji24))).f1))) = w32 at n0_ n1_ n2_ ⊢
                    have HO_6 := n0_
                    have BK230 := n1_
                    have HB := n2_
                    clear n0_ n1_ n2_
                    have n0_ := Aside0.mk (Kd.R_drew HO_6.out)
                    have n1_ := Aside0.mk (blk_drew BK230.out)
                    have n2_ := Aside0.mk (below_drew1 HB.out)
                    clear HO_6
                    clear BK230
                    clear HB
                    have HO_6 := n0_
                    have BK230 := n1_
                    have HB := n2_
                    clear n0_ n1_ n2_
                    have p231 : 0 ≤ (x32_2 : Int) := of_decide_eq_true (by first | (with_reducible assumption) | assumption)
                    have q231 : x32_2 < (l0.length : Int) := of_decide_eq_true (by first | (with_reducible assumption) | assumption)
                    obtain ⟨ad231, e231, hx231_0⟩ := Kd.at_int HR0.out x32_2 p231 q231
                    have hw231_0 := hx231_0
                    cases e231
                    replace hx231_0 := (HB.out.cell (World.block_lt_of_cell? w _ hx231_0)).trans hx231_0
                    replace p231 := eq_true p231
                    replace q231 := eq_true q231
                    refine start_ (n := 14) (S := fun w' => w'.cell? ⟨gb230, 0, none⟩ = some (.int .i64 ((rd_T46 x6_2 (Go.bits .andNot .i64 x7_1 (ji24))).f0)) ∧ w'.cell? ⟨gb230, 1, none⟩ = some (.int .i64 ((rd_T46 x6_2 (Go.bits .andNot .i64 x7_1 (ji24))).f1)) ∧ w'.cell? (ad231.add (x32_2).toNat) = some (.int .i64 (rd l0 x32_2))) (ds := []) W0_ (by kernel_rfl) rfl rfl ⟨(blk_cell BK230.out 0).trans rfl, (blk_cell BK230.out 1).trans rfl, ((HB.out.cell (World.block_lt_of_cell? w _ hw231_0)).trans hw231_0)⟩ (fun hHeld => ?_); refine with_tabW impl_FewestStrips.tab14 impl_FewestStrips.bits14 (fun HT_ HW_ => ?_)
                    generalize w32.drew = w33 at HO_6 BK230 HB hx231_0 hHeld ⊢
                    refine pz_ (i := 0) (N := some 47) W1_ rfl rfl (any_of HT_.out (by kernel_rfl)) ?_
                    refine take_ (i := 1) (N := some 48) (v := ?_) (a' := ?_) W2_ rfl rfl (take_ofW HT_.out HW_.out (by kernel_rfl)) (fun _ _ _ h => h) (Or.inl ⟨by rfl, ?_⟩) hHeld ?_ ?_
                    rotate_left
                    ·rintro w' ⟨s0, s1, s2⟩
                     go_simp
                     with_reducible rfl
                    rotate_left
                    ·simp only [Act.put, List.setIfInBounds_toArray, List.set_cons_zero, List.set_cons_succ, i64_w, i32_w]
                     rfl
                    refine pz_ (i := 2) (N := some 49) W3_ rfl rfl (any_of HT_.out (by kernel_rfl)) ?_
                    refine pz_ (i := 3) (N := some 50) W4_ rfl rfl (any_of HT_.out (by kernel_rfl)) ?_
                    refine pz_ (i := 4) (N := some 51) W5_ rfl rfl (any_of HT_.out (by kernel_rfl)) ?_
                    refine pz_ (i := 6) (N := some 53) W6_ rfl rfl (any_of HT_.out (by kernel_rfl)) ?_
                    refine pz_ (i := 7) (N := some 54) W7_ rfl rfl (any_of HT_.out (by kernel_rfl)) ?_
                    refine pz_ (i := 8) (N := some 55) W8_ rfl rfl (any_of HT_.out (by kernel_rfl)) ?_
                    refine pz_ (i := 11) (N := some 58) W9_ rfl rfl (any_of HT_.out (by kernel_rfl)) ?_
                    refine take_ (i := 5) (N := some 52) (v := ?_) (a' := ?_) W10_ rfl rfl (take_ofW HT_.out HW_.out (by kernel_rfl)) (fun _ _ _ h => h) (Or.inl ⟨by rfl, ?_⟩) hHeld ?_ ?_
                    rotate_left
                    ·rintro w' ⟨s0, s1, s2⟩
                     go_simp
                     with_reducible rfl
                    rotate_left
                    ·simp only [Act.put, List.setIfInBounds_toArray, List.set_cons_zero, List.set_cons_succ, i64_w, i32_w]
                     rfl
                    refine take_ (i := 9) (N := some 56) (v := ?_) (a' := ?_) W11_ rfl rfl (take_ofW HT_.out HW_.out (by kernel_rfl)) (fun _ _ _ h => h) (Or.inl ⟨by rfl, ?_⟩) hHeld ?_ ?_
                    rotate_left
                    ·rintro w' ⟨s0, s1, s2⟩
                     go_simp
                     with_reducible rfl
                    rotate_left
                    ·simp only [Act.put, List.setIfInBounds_toArray, List.set_cons_zero, List.set_cons_succ, i64_w, i32_w]
                     rfl
                    refine pz_ (i := 10) (N := some 57) W12_ rfl rfl (any_of HT_.out (by kernel_rfl)) ?_
                    refine pz_ (i := 12) (N := some 59) W13_ rfl rfl (any_of HT_.out (by kernel_rfl)) ?_
                    refine pz_ (i := 13) (N := some 60) W14_ rfl rfl (any_of HT_.out (by kernel_rfl)) ?_
                    refine done_ (done_of HT_.out (by kernel_rfl)) ?_
                    try go_wp2
                    go_meet
                    case rel => exact ⟨_, (decide ((wrap64 (((rd_T46 x6_2 (Go.bits .andNot .i64 x7_1 (ji24))).f1) + (rd l0 x32_2))) ≤ a1)), (by first | rfl | (simp; done) | (simp only [← hji24] <;> (first | rfl | simp)) | (simp [*]; done)), H', ⟨by have := HK1.out; have := HK2.out; first | omega | exact Nat.le_refl _⟩, ⟨by (try simp only [hl6_2]); (with_reducible repeat (first | apply Kd.R_alloc | apply Kd.R_drewN | apply Kd.R_drew)); exact HO_6.out⟩, ⟨by (try simp only [hl6_2]); (with_reducible repeat (first | refine blk_drewN ?_ _ | refine blk_drew ?_ | refine blk_alloc ?_ _)); exact BK230.out⟩, ⟨by repeat (first | (with_reducible first | exact HB.out | apply below_alloc | apply pw_below_drewN | apply below_drew1 | refine below_set ?_ GE230.out) | exact HB.out)⟩⟩
                   ·rw [if_neg c31] at H
                    exact absurd H (by simp)
                  ·rw [if_neg c30] at H
                   have c30b0 : decide (0 < ((rd_T46 x6_2 (Go.bits .andNot .i64 x7_1 (ji24))).f0)) = false := decide_eq_false c30
                   clear c30
                   (first | rw [c30b0] | (simp only [i64_w, i32_w]; rw [c30b0]) | skip)
                   have H' := Aside0.mk H
                   clear H
                   try go_wp2
                   have n0_ : Aside0 (Kd.R k46 46 ((w28.setCell ⟨gb230, 0, none⟩ (.int .i64 ((rd_T46 x6_2 (Go.bits .andNot .i64 x7_1 (ji24))).f0))).setCell ⟨gb230, 1, none⟩ (.int .i64 ((rd_T46 x6_2 (Go.bits .andNot .i64 x7_1 (ji24))).f1))) w.heap.size (fun k_ => k_ ≠ gb230) (.slice (some ⟨go16, 0, none⟩) x6_2.length co16) x6_2) := ⟨by (with_reducible repeat (first | apply Kd.R_alloc | apply Kd.R_drewN | apply Kd.R_drew)); exact Kd.R_mono (Kd.R_far (p := ⟨gb230, 1, none⟩) (Kd.R_far (p := ⟨gb230, 0, none⟩) (Kd.R_mono HO_6.out (fun k_ hk => (⟨hk, hk.2⟩ : _ ∧ k_ ≠ gb230))) (fun _ hk => hk.2) (.int .i64 ((rd_T46 x6_2 (Go.bits .andNot .i64 x7_1 (ji24))).f0))) (fun _ hk => hk.2) (.int .i64 ((rd_T46 x6_2 (Go.bits .andNot .i64 x7_1 (ji24))).f1))) (fun _ hk => hk.1.2)⟩
                   have n1_ : Aside0 (((w28.setCell ⟨gb230, 0, none⟩ (.int .i64 ((rd_T46 x6_2 (Go.bits .andNot .i64 x7_1 (ji24))).f0))).setCell ⟨gb230, 1, none⟩ (.int .i64 ((rd_T46 x6_2 (Go.bits .andNot .i64 x7_1 (ji24))).f1))).heap[gb230]? = some (.cells #[.int .i64 ((rd_T46 x6_2 (Go.bits .andNot .i64 x7_1 (ji24))).f0), .int .i64 ((rd_T46 x6_2 (Go.bits .andNot .i64 x7_1 (ji24))).f1)] 46 (0, 0))) := ⟨by (with_reducible repeat (first | refine blk_drewN ?_ _ | refine blk_drew ?_ | refine blk_alloc ?_ _)); refine blk_put (cs := #[.int .i64 ((rd_T46 x6_2 (Go.bits .andNot .i64 x7_1 (ji24))).f0), .int .i64 0]) ?_ 1 _ rfl; (with_reducible repeat (first | refine blk_drewN ?_ _ | refine blk_drew ?_ | refine blk_alloc ?_ _)); refine blk_put (cs := #[.int .i64 0, .int .i64 0]) ?_ 0 _ rfl; (with_reducible repeat (first | refine blk_drewN ?_ _ | refine blk_drew ?_ | refine blk_alloc ?_ _)); exact BK230.out⟩
                   have n2_ : Aside0 (Below w.heap.size w ((w28.setCell ⟨gb230, 0, none⟩ (.int .i64 ((rd_T46 x6_2 (Go.bits .andNot .i64 x7_1 (ji24))).f0))).setCell ⟨gb230, 1, none⟩ (.int .i64 ((rd_T46 x6_2 (Go.bits .andNot .i64 x7_1 (ji24))).f1)))) := ⟨by repeat (first | (with_reducible first | exact HB.out | apply below_alloc | apply pw_below_drewN | apply below_drew1 | refine below_set ?_ GE230.out) | exact HB.out)⟩
                   (try clear HO_6)
                   (try clear BK230)
                   (try clear HB)
                   generalize ((w28.setCell ⟨gb230, 0, none⟩ (.int .i64 ((rd_T46 x6_2 (Go.bits .andNot .i64 x7_1 (ji24))).f0))).setCell ⟨gb230, 1, none⟩ (.int .i64 ((rd_T46 x6_2 (Go.bits .andNot .i64 x7_1 (ji24))).f1))) = w34 at n0_ n1_ n2_ ⊢
                   have HO_6 := n0_
                   have BK230 := n1_
                   have HB := n2_
                   clear n0_ n1_ n2_
                   have n0_ := Aside0.mk (Kd.R_drew HO_6.out)
                   have n1_ := Aside0.mk (blk_drew BK230.out)
                   have n2_ := Aside0.mk (below_drew1 HB.out)
                   clear HO_6
                   clear BK230
                   clear HB
                   have HO_6 := n0_
                   have BK230 := n1_
                   have HB := n2_
                   clear n0_ n1_ n2_
                   refine start_ (n := 14) (S := fun w' => w'.cell? ⟨gb230, 0, none⟩ = some (.int .i64 ((rd_T46 x6_2 (Go.bits .andNot .i64 x7_1 (ji24))).f0)) ∧ w'.cell? ⟨gb230, 1, none⟩ = some (.int .i64 ((rd_T46 x6_2 (Go.bits .andNot .i64 x7_1 (ji24))).f1))) (ds := []) W0_ (by kernel_rfl) rfl rfl ⟨(blk_cell BK230.out 0).trans rfl, (blk_cell BK230.out 1).trans rfl⟩ (fun hHeld => ?_); refine with_tabW impl_FewestStrips.tab14 impl_FewestStrips.bits14 (fun HT_ HW_ => ?_)
                   generalize w34.drew = w35 at HO_6 BK230 HB hHeld ⊢
                   refine pz_ (i := 0) (N := some 47) W1_ rfl rfl (any_of HT_.out (by kernel_rfl)) ?_
                   refine take_ (i := 1) (N := some 48) (v := ?_) (a' := ?_) W2_ rfl rfl (take_ofW HT_.out HW_.out (by kernel_rfl)) (fun _ _ _ h => h) (Or.inl ⟨by rfl, ?_⟩) hHeld ?_ ?_
                   rotate_left
                   ·rintro w' ⟨s0, s1⟩
                    go_simp
                    with_reducible rfl
                   rotate_left
                   ·simp only [Act.put, List.setIfInBounds_toArray, List.set_cons_zero, List.set_cons_succ, i64_w, i32_w]
                    rfl
                   refine pz_ (i := 2) (N := some 49) W3_ rfl rfl (any_of HT_.out (by kernel_rfl)) ?_
                   refine pz_ (i := 3) (N := some 50) W4_ rfl rfl (any_of HT_.out (by kernel_rfl)) ?_
                   refine pu_ (i := 4) (N := some 51) W5_ rfl rfl (any_of HT_.out (by kernel_rfl)) ?_
                   refine pu_ (i := 5) (N := some 52) W15_ rfl rfl (any_of HT_.out (by kernel_rfl)) ?_
                   refine pu_ (i := 6) (N := some 53) W16_ rfl rfl (any_of HT_.out (by kernel_rfl)) ?_
                   refine pu_ (i := 7) (N := some 54) W17_ rfl rfl (any_of HT_.out (by kernel_rfl)) ?_
                   refine pu_ (i := 8) (N := some 55) W18_ rfl rfl (any_of HT_.out (by kernel_rfl)) ?_
                   refine pu_ (i := 9) (N := some 56) W19_ rfl rfl (any_of HT_.out (by kernel_rfl)) ?_
                   refine pu_ (i := 10) (N := some 57) W20_ rfl rfl (any_of HT_.out (by kernel_rfl)) ?_
                   refine pu_ (i := 11) (N := some 58) W12_ rfl rfl (any_of HT_.out (by kernel_rfl)) ?_
                   refine pu_ (i := 12) (N := some 59) W13_ rfl rfl (any_of HT_.out (by kernel_rfl)) ?_
                   refine pz_ (i := 13) (N := some 60) W14_ rfl rfl (any_of HT_.out (by kernel_rfl)) ?_
                   refine done_ (done_of HT_.out (by kernel_rfl)) ?_
                   try go_wp2
                   go_meet
                   case rel => exact ⟨_, (false), (by first | rfl | (simp; done) | (simp [*]; done)), H', ⟨by have := HK1.out; have := HK2.out; first | omega | exact Nat.le_refl _⟩, ⟨by (try simp only [hl6_2]); (with_reducible repeat (first | apply Kd.R_alloc | apply Kd.R_drewN | apply Kd.R_drew)); exact HO_6.out⟩, ⟨by (try simp only [hl6_2]); (with_reducible repeat (first | refine blk_drewN ?_ _ | refine blk_drew ?_ | refine blk_alloc ?_ _)); exact BK230.out⟩, ⟨by repeat (first | (with_reducible first | exact HB.out | apply below_alloc | apply pw_below_drewN | apply below_drew1 | refine below_set ?_ GE230.out) | exact HB.out)⟩⟩
                 case rest =>
                  clear HC27
                  try clear c1
                  try clear p1
                  try clear q1
                  try clear hx1
                  try clear c2
                  try clear p2
                  try clear q2
                  try clear hx2
                  try clear c3
                  try clear c4
                  try clear c6
                  try clear p6
                  try clear c7
                  try clear c7b0
                  try clear c7b1
                  try clear c11
                  try clear c11b0
                  try clear c11b1
                  try clear c12
                  try clear c13
                  try clear c13b0
                  try clear c14
                  try clear c14b0
                  try clear c15
                  try clear c15b0
                  try clear c16
                  try clear p16
                  try clear q16
                  try clear hx16
                  try clear hf16
                  try clear c17
                  try clear hx17
                  try clear hf17
                  try clear c19
                  try clear c19b0
                  try clear c20
                  try clear c20b0
                  try clear c20b1
                  try clear c22
                  try clear c22b0
                  try clear c22b1
                  try clear p22
                  try clear q22
                  try clear hx22
                  try clear c23
                  try clear c23b0
                  try clear p23
                  try clear q23
                  try clear hx23
                  try clear c25
                  try clear c25b0
                  try clear c26
                  try clear c26b0
                  try clear c30
                  try clear c30b0
                  try clear c31
                  try clear c31b0
                  try clear hcz29_0
                  try clear hcz29_1
                  try clear hfz29_0
                  try clear hfz29_1
                  try clear hx16_0
                  try clear hx16_1
                  try clear hx17_0
                  try clear hx17_1
                  try clear hx229_0
                  try clear hx229_1
                  try clear hx231_0
                  try clear p1
                  try clear p16
                  try clear p2
                  try clear p229
                  try clear p231
                  try clear p6
                  try clear q1
                  try clear q16
                  try clear q229
                  try clear q231
                  obtain ⟨kq, x60_26, rfl, HA, HJ26, HO_6, BK230, HB⟩ := hcut
                  cases kq with
                  | zero => exact absurd HA.out (by simp [impl_FewestStrips.j2])
                  | succ kj26 =>
                   have H := HA.out
                   clear HA
                   simp only [impl_FewestStrips.j2] at H
                   by_cases c36 : x60_26 = true
                   ·subst c36
                    have H1 : (if 0 ≤ x32_2 then (if x32_2 < (l0.length : Int) then (if 0 ≤ x7_1 then (if x7_1 < (x6_2.length : Int) then (if ((rd_T46 x6_2 (Go.bits .andNot .i64 x7_1 (ji24))).f0) < ((rd_T46 x6_2 x7_1).f0) then (impl_FewestStrips.l1 kj26 l0 a1 (l0.length : Int) (x6_2.set (x7_1 : Int).toNat (⟨((rd_T46 x6_2 (Go.bits .andNot .i64 x7_1 (ji24))).f0), wrap64 (((rd_T46 x6_2 (Go.bits .andNot .i64 x7_1 (ji24))).f1) + (rd l0 x32_2))⟩ : S46)) x7_1 (l0.length : Int) (wrap64 (x32_2 + 1))) else (if ((rd_T46 x6_2 (Go.bits .andNot .i64 x7_1 (ji24))).f0) = ((rd_T46 x6_2 x7_1).f0) then (if (wrap64 (((rd_T46 x6_2 (Go.bits .andNot .i64 x7_1 (ji24))).f1) + (rd l0 x32_2))) < ((rd_T46 x6_2 x7_1).f1) then (impl_FewestStrips.l1 kj26 l0 a1 (l0.length : Int) (x6_2.set (x7_1 : Int).toNat (⟨((rd_T46 x6_2 (Go.bits .andNot .i64 x7_1 (ji24))).f0), wrap64 (((rd_T46 x6_2 (Go.bits .andNot .i64 x7_1 (ji24))).f1) + (rd l0 x32_2))⟩ : S46)) x7_1 (l0.length : Int) (wrap64 (x32_2 + 1))) else (impl_FewestStrips.l1 kj26 l0 a1 (l0.length : Int) x6_2 x7_1 (l0.length : Int) (wrap64 (x32_2 + 1)))) else (impl_FewestStrips.l1 kj26 l0 a1 (l0.length : Int) x6_2 x7_1 (l0.length : Int) (wrap64 (x32_2 + 1))))) else (none)) else (none)) else (none)) else (none)) = some r := by rw [if_pos rfl] at H; exact H
                    clear H
                    have H := H1
                    clear H1
                    by_cases c37 : 0 ≤ x32_2
                    ·rw [if_pos c37] at H
                     have c37b0 : decide (0 ≤ x32_2) = true := decide_eq_true c37
                     clear c37
                     by_cases c38 : x32_2 < (l0.length : Int)
                     ·rw [if_pos c38] at H
                      have c38b0 : decide (x32_2 < (l0.length : Int)) = true := decide_eq_true c38
                      clear c38
                      by_cases c39 : 0 ≤ x7_1
                      ·rw [if_pos c39] at H
                       have c39b0 : decide (0 ≤ x7_1) = true := decide_eq_true c39
                       clear c39
                       by_cases c40 : x7_1 < (x6_2.length : Int)
                       ·rw [if_pos c40] at H
                        have c40b0 : decide (x7_1 < (x6_2.length : Int)) = true := decide_eq_true c40
                        clear c40
                        by_cases c41 : ((rd_T46 x6_2 (Go.bits .andNot .i64 x7_1 (ji24))).f0) < ((rd_T46 x6_2 x7_1).f0)
                        ·as_aux_lemma =>
                          rw [if_pos c41] at H
                          have c41b0 : decide (((rd_T46 x6_2 (Go.bits .andNot .i64 x7_1 (ji24))).f0) < ((rd_T46 x6_2 x7_1).f0)) = true := decide_eq_true c41
                          clear c41
                          obtain ⟨y234, hy234⟩ : ∃ y_ : List (S46), y_ = (x6_2.set (x7_1 : Int).toNat (⟨((rd_T46 x6_2 (Go.bits .andNot .i64 x7_1 (ji24))).f0), wrap64 (((rd_T46 x6_2 (Go.bits .andNot .i64 x7_1 (ji24))).f1) + (rd l0 x32_2))⟩ : S46)) := ⟨_, rfl⟩
                          replace H : (impl_FewestStrips.l1 kj26 l0 a1 (l0.length : Int) y234 x7_1 (l0.length : Int) (wrap64 (x32_2 + 1))) = some r := by first | (rw [hy234]; with_reducible exact H) | (have H2_ := (Option.bind_some _ _).symm.trans H; rw [hy234]; with_reducible exact H2_) | (have H2_ := (Option.bind_some _ _).symm.trans H; with_reducible exact H2_) | with_reducible exact H | (rw [hy234]; exact H) | exact H
                          have Ny234 := Aside0.mk hy234
                          clear hy234
                          have H' := Aside0.mk H
                          clear H
                          try go_wp2
                          have n0_ := Aside0.mk (Kd.R_drew HO_6.out)
                          have n1_ := Aside0.mk (blk_drew BK230.out)
                          have n2_ := Aside0.mk (below_drew1 HB.out)
                          clear HO_6
                          clear BK230
                          clear HB
                          have HO_6 := n0_
                          have BK230 := n1_
                          have HB := n2_
                          clear n0_ n1_ n2_
                          have p232 : 0 ≤ (x32_2 : Int) := of_decide_eq_true (by first | (with_reducible assumption) | assumption)
                          have q232 : x32_2 < (l0.length : Int) := of_decide_eq_true (by first | (with_reducible assumption) | assumption)
                          obtain ⟨ad232, e232, hx232_0⟩ := Kd.at_int HR0.out x32_2 p232 q232
                          have hw232_0 := hx232_0
                          cases e232
                          replace hx232_0 := (HB.out.cell (World.block_lt_of_cell? w _ hx232_0)).trans hx232_0
                          replace p232 := eq_true p232
                          replace q232 := eq_true q232
                          refine start_ (n := 9) (S := fun w' => w'.cell? ⟨gb230, 0, none⟩ = some (.int .i64 ((rd_T46 x6_2 (Go.bits .andNot .i64 x7_1 (ji24))).f0)) ∧ w'.cell? ⟨gb230, 1, none⟩ = some (.int .i64 ((rd_T46 x6_2 (Go.bits .andNot .i64 x7_1 (ji24))).f1)) ∧ w'.cell? (ad232.add (x32_2).toNat) = some (.int .i64 (rd l0 x32_2))) (ds := [8]) W21_ (by kernel_rfl) rfl rfl ⟨(blk_cell BK230.out 0).trans rfl, (blk_cell BK230.out 1).trans rfl, ((HB.out.cell (World.block_lt_of_cell? w _ hw232_0)).trans hw232_0)⟩ (fun hHeld => ?_); refine with_tabW impl_FewestStrips.tab15 impl_FewestStrips.bits15 (fun HT_ HW_ => ?_)
                          generalize wc.drew = w43 at HO_6 BK230 HB hx232_0 hHeld ⊢
                          refine pz_ (i := 0) (N := some 61) W22_ rfl rfl (any_of HT_.out (by kernel_rfl)) ?_
                          refine pz_ (i := 2) (N := some 63) W23_ rfl rfl (any_of HT_.out (by kernel_rfl)) ?_
                          refine pz_ (i := 3) (N := some 64) W24_ rfl rfl (any_of HT_.out (by kernel_rfl)) ?_
                          refine pz_ (i := 4) (N := some 65) W25_ rfl rfl (any_of HT_.out (by kernel_rfl)) ?_
                          refine take_ (i := 1) (N := some 62) (v := ?_) (a' := ?_) W26_ rfl rfl (take_ofW HT_.out HW_.out (by kernel_rfl)) (fun _ _ _ h => h) (Or.inl ⟨by rfl, ?_⟩) hHeld ?_ ?_
                          rotate_left
                          ·rintro w' ⟨s0, s1, s2⟩
                           go_simp
                           with_reducible rfl
                          rotate_left
                          ·simp only [Act.put, List.setIfInBounds_toArray, List.set_cons_zero, List.set_cons_succ, i64_w, i32_w]
                           rfl
                          refine take_ (i := 5) (N := some 66) (v := ?_) (a' := ?_) W27_ rfl rfl (take_ofW HT_.out HW_.out (by kernel_rfl)) (fun _ _ _ h => h) (Or.inl ⟨by rfl, ?_⟩) hHeld ?_ ?_
                          rotate_left
                          ·rintro w' ⟨s0, s1, s2⟩
                           go_simp
                           with_reducible rfl
                          rotate_left
                          ·simp only [Act.put, List.setIfInBounds_toArray, List.set_cons_zero, List.set_cons_succ, i64_w, i32_w]
                           rfl
                          refine pz_ (i := 6) (N := some 67) W28_ rfl rfl (any_of HT_.out (by kernel_rfl)) ?_
                          refine pz_ (i := 7) (N := some 68) W29_ rfl rfl (any_of HT_.out (by kernel_rfl)) ?_
                          refine last_ (i := 8) (N := none) W30_ rfl rfl (one_of HT_.out (by kernel_rfl)) (by decide) (fun K hK => ?_)
                          have hs44 : w43.cell? ⟨gb230, 1, none⟩ = some (.int .i64 ((rd_T46 x6_2 (Go.bits .andNot .i64 x7_1 (ji24))).f1)) := (blk_cell BK230.out 1).trans rfl
                          have hfs44 := blk_frozen BK230.out 1
                          refine skip_ (w1 := ?_) (by rfl) rfl ?_ ?_
                          rotate_left
                          ·go_simp
                           rfl
                          refine hK.out _ _ ?_
                          clear hK K
                          refine done_ (done_of HT_.out (by kernel_rfl)) ?_
                          try go_wp2
                          have n0_ : Aside0 (Kd.R k46 46 (w43.setCell ⟨gb230, 1, none⟩ (.int .i64 (wrap64 (((rd_T46 x6_2 (Go.bits .andNot .i64 x7_1 (ji24))).f1) + (rd l0 x32_2))))) w.heap.size (fun k_ => k_ ≠ gb230) (.slice (some ⟨go16, 0, none⟩) x6_2.length co16) x6_2) := ⟨by (with_reducible repeat (first | apply Kd.R_alloc | apply Kd.R_drewN | apply Kd.R_drew)); exact Kd.R_mono (Kd.R_far (p := ⟨gb230, 1, none⟩) (Kd.R_mono HO_6.out (fun k_ hk => (⟨hk, hk⟩ : _ ∧ k_ ≠ gb230))) (fun _ hk => hk.2) (.int .i64 (wrap64 (((rd_T46 x6_2 (Go.bits .andNot .i64 x7_1 (ji24))).f1) + (rd l0 x32_2))))) (fun _ hk => hk.1)⟩
                          have n1_ : Aside0 ((w43.setCell ⟨gb230, 1, none⟩ (.int .i64 (wrap64 (((rd_T46 x6_2 (Go.bits .andNot .i64 x7_1 (ji24))).f1) + (rd l0 x32_2))))).heap[gb230]? = some (.cells #[.int .i64 ((rd_T46 x6_2 (Go.bits .andNot .i64 x7_1 (ji24))).f0), .int .i64 (wrap64 (((rd_T46 x6_2 (Go.bits .andNot .i64 x7_1 (ji24))).f1) + (rd l0 x32_2)))] 46 (0, 0))) := ⟨by (with_reducible repeat (first | refine blk_drewN ?_ _ | refine blk_drew ?_ | refine blk_alloc ?_ _)); refine blk_put (cs := #[.int .i64 ((rd_T46 x6_2 (Go.bits .andNot .i64 x7_1 (ji24))).f0), .int .i64 ((rd_T46 x6_2 (Go.bits .andNot .i64 x7_1 (ji24))).f1)]) ?_ 1 _ rfl; (with_reducible repeat (first | refine blk_drewN ?_ _ | refine blk_drew ?_ | refine blk_alloc ?_ _)); exact BK230.out⟩
                          have n2_ : Aside0 (Below w.heap.size w (w43.setCell ⟨gb230, 1, none⟩ (.int .i64 (wrap64 (((rd_T46 x6_2 (Go.bits .andNot .i64 x7_1 (ji24))).f1) + (rd l0 x32_2)))))) := ⟨by repeat (first | (with_reducible first | exact HB.out | apply below_alloc | apply pw_below_drewN | apply below_drew1 | refine below_set ?_ GE230.out) | exact HB.out)⟩
                          (try clear HO_6)
                          (try clear BK230)
                          (try clear HB)
                          generalize (w43.setCell ⟨gb230, 1, none⟩ (.int .i64 (wrap64 (((rd_T46 x6_2 (Go.bits .andNot .i64 x7_1 (ji24))).f1) + (rd l0 x32_2))))) = w45 at n0_ n1_ n2_ ⊢
                          have HO_6 := n0_
                          have BK230 := n1_
                          have HB := n2_
                          clear n0_ n1_ n2_
                          have n0_ := Aside0.mk (Kd.R_drew HO_6.out)
                          have n1_ := Aside0.mk (blk_drew BK230.out)
                          have n2_ := Aside0.mk (below_drew1 HB.out)
                          clear HO_6
                          clear BK230
                          clear HB
                          have HO_6 := n0_
                          have BK230 := n1_
                          have HB := n2_
                          clear n0_ n1_ n2_
                          have p233 : 0 ≤ (x7_1 : Int) := of_decide_eq_true (by first | (with_reducible assumption) | assumption)
                          have q233 : x7_1 < (x6_2.length : Int) := of_decide_eq_true (by first | (with_reducible assumption) | assumption)
                          obtain ⟨ad233, e233, hx233_0, hx233_1⟩ := at_T46 (Kd.R_reads' HO_6.out).2.2 x7_1 p233 q233
                          obtain rfl : (⟨go16, 0, none⟩ : Addr) = ad233 := (by injection e233)
                          (first | simp only [add_plain] at hx233_0 | simp only [add_at] at hx233_0 | simp only [Addr.add, Nat.zero_add] at hx233_0 | skip)
                          (first | simp only [add_plain] at hx233_1 | simp only [add_at] at hx233_1 | simp only [Addr.add, Nat.zero_add] at hx233_1 | skip)
                          replace p233 := eq_true p233
                          replace q233 := eq_true q233
                          refine start_ (n := 28) (S := fun w' => w'.cell? ⟨gb230, 0, none⟩ = some (.int .i64 ((rd_T46 x6_2 (Go.bits .andNot .i64 x7_1 (ji24))).f0)) ∧ w'.cell? ⟨gb230, 1, none⟩ = some (.int .i64 (wrap64 (((rd_T46 x6_2 (Go.bits .andNot .i64 x7_1 (ji24))).f1) + (rd l0 x32_2)))) ∧ w'.cell? ⟨go16, (x7_1).toNat * 2, none⟩ = some (.int .i64 ((rd_T46 x6_2 x7_1).f0)) ∧ w'.cell? ⟨go16, (x7_1).toNat * 2 + 1, none⟩ = some (.int .i64 ((rd_T46 x6_2 x7_1).f1))) (ds := []) W31_ (by kernel_rfl) rfl rfl ⟨(blk_cell BK230.out 0).trans rfl, (blk_cell BK230.out 1).trans rfl, hx233_0, hx233_1⟩ (fun hHeld => ?_); refine with_tabW impl_FewestStrips.tab17 impl_FewestStrips.bits17 (fun HT_ HW_ => ?_)
                          generalize w45.drew = w46 at HO_6 BK230 HB hx233_0 hx233_1 hHeld ⊢
                          refine pz_ (i := 0) (N := some 77) W32_ rfl rfl (any_of HT_.out (by kernel_rfl)) ?_
                          refine pz_ (i := 2) (N := some 79) W33_ rfl rfl (any_of HT_.out (by kernel_rfl)) ?_
                          refine pz_ (i := 3) (N := some 80) W34_ rfl rfl (any_of HT_.out (by kernel_rfl)) ?_
                          refine pz_ (i := 4) (N := some 81) W35_ rfl rfl (any_of HT_.out (by kernel_rfl)) ?_
                          refine pz_ (i := 5) (N := some 82) W36_ rfl rfl (any_of HT_.out (by kernel_rfl)) ?_
                          refine take_ (i := 1) (N := some 78) (v := ?_) (a' := ?_) W37_ rfl rfl (take_ofW HT_.out HW_.out (by kernel_rfl)) (fun _ _ _ h => h) (Or.inl ⟨by rfl, ?_⟩) hHeld ?_ ?_
                          rotate_left
                          ·rintro w' ⟨s0, s1, s2, s3⟩
                           go_simp
                           with_reducible rfl
                          rotate_left
                          ·simp only [Act.put, List.setIfInBounds_toArray, List.set_cons_zero, List.set_cons_succ, i64_w, i32_w]
                           rfl
                          refine take_ (i := 6) (N := some 83) (v := ?_) (a' := ?_) W38_ rfl rfl (take_ofW HT_.out HW_.out (by kernel_rfl)) (fun _ _ _ h => h) (Or.inl ⟨by rfl, ?_⟩) hHeld ?_ ?_
                          rotate_left
                          ·rintro w' ⟨s0, s1, s2, s3⟩
                           go_simp
                           with_reducible rfl
                          rotate_left
                          ·simp only [Act.put, List.setIfInBounds_toArray, List.set_cons_zero, List.set_cons_succ, i64_w, i32_w]
                           rfl
                          refine pz_ (i := 7) (N := some 84) W39_ rfl rfl (any_of HT_.out (by kernel_rfl)) ?_
                          refine pz_ (i := 8) (N := some 85) W40_ rfl rfl (any_of HT_.out (by kernel_rfl)) ?_
                          refine pu_ (i := 9) (N := some 86) W41_ rfl rfl (any_of HT_.out (by kernel_rfl)) ?_
                          refine pu_ (i := 10) (N := some 87) W42_ rfl rfl (any_of HT_.out (by kernel_rfl)) ?_
                          refine pu_ (i := 11) (N := some 88) W43_ rfl rfl (any_of HT_.out (by kernel_rfl)) ?_
                          refine pu_ (i := 12) (N := some 89) W44_ rfl rfl (any_of HT_.out (by kernel_rfl)) ?_
                          refine pu_ (i := 13) (N := some 90) W45_ rfl rfl (any_of HT_.out (by kernel_rfl)) ?_
                          refine pu_ (i := 14) (N := some 91) W46_ rfl rfl (any_of HT_.out (by kernel_rfl)) ?_
                          refine pu_ (i := 15) (N := some 92) W47_ rfl rfl (any_of HT_.out (by kernel_rfl)) ?_
                          refine pu_ (i := 16) (N := some 93) W48_ rfl rfl (any_of HT_.out (by kernel_rfl)) ?_
                          refine pu_ (i := 17) (N := some 94) W49_ rfl rfl (any_of HT_.out (by kernel_rfl)) ?_
                          refine pu_ (i := 18) (N := some 95) W50_ rfl rfl (any_of HT_.out (by kernel_rfl)) ?_
                          refine pu_ (i := 19) (N := some 96) W51_ rfl rfl (any_of HT_.out (by kernel_rfl)) ?_
                          refine pu_ (i := 20) (N := some 97) W52_ rfl rfl (any_of HT_.out (by kernel_rfl)) ?_
                          refine pu_ (i := 21) (N := some 98) W53_ rfl rfl (any_of HT_.out (by kernel_rfl)) ?_
                          refine pu_ (i := 22) (N := some 99) W54_ rfl rfl (any_of HT_.out (by kernel_rfl)) ?_
                          refine pu_ (i := 23) (N := some 100) W55_ rfl rfl (any_of HT_.out (by kernel_rfl)) ?_
                          refine pu_ (i := 24) (N := some 101) W56_ rfl rfl (any_of HT_.out (by kernel_rfl)) ?_
                          refine pu_ (i := 25) (N := some 102) W57_ rfl rfl (any_of HT_.out (by kernel_rfl)) ?_
                          refine pu_ (i := 26) (N := some 103) W58_ rfl rfl (any_of HT_.out (by kernel_rfl)) ?_
                          refine pz_ (i := 27) (N := some 104) W59_ rfl rfl (any_of HT_.out (by kernel_rfl)) ?_
                          refine done_ (done_of HT_.out (by kernel_rfl)) ?_
                          have hcz47_0 : w46.cell? ⟨gb230, 0, none⟩ = some (.int .i64 ((rd_T46 x6_2 (Go.bits .andNot .i64 x7_1 (ji24))).f0)) := (blk_cell BK230.out 0).trans rfl
                          have hcz47_1 : w46.cell? ⟨gb230, 1, none⟩ = some (.int .i64 (wrap64 (((rd_T46 x6_2 (Go.bits .andNot .i64 x7_1 (ji24))).f1) + (rd l0 x32_2)))) := (blk_cell BK230.out 1).trans rfl
                          have hfz47_0 := blk_frozen BK230.out 0
                          have hfz47_1 := blk_frozen BK230.out 1
                          have p42 : 0 ≤ (x7_1 : Int) := of_decide_eq_true (by first | (with_reducible assumption) | assumption)
                          have q42 : (x7_1 : Int) < ((x6_2.length : Int) : Int) := of_decide_eq_true (by first | (with_reducible assumption) | assumption)
                          obtain ⟨ce42, hcl42, hM42, hcc42, hfr42⟩ := Kd.R_elem HO_6.out z46 (x7_1 : Int) p42 q42
                          obtain rfl := k46_openM hM42
                          have hx42_0 : w46.cell? ⟨go16, (x7_1 : Int).toNat * 2, none⟩ = some (.int .i64 ((rd_T46 x6_2 x7_1).f0)) := hcc42 0 _ rfl
                          have hx42_1 : w46.cell? ⟨go16, (x7_1 : Int).toNat * 2 + 1, none⟩ = some (.int .i64 ((rd_T46 x6_2 x7_1).f1)) := hcc42 1 _ rfl
                          have hf42_0 : w46.frozen? ⟨go16, (x7_1 : Int).toNat * 2, none⟩ = false := hfr42 0
                          have hf42_1 : w46.frozen? ⟨go16, (x7_1 : Int).toNat * 2 + 1, none⟩ = false := hfr42 1
                          clear hcl42 hcc42 hfr42; (try clear hM42)
                          replace p42 := eq_true p42
                          replace q42 := eq_true q42
                          have HX48 := Aside0.mk (show Kd.R k46 46 w46 w.heap.size (fun k_ => k_ ≠ gb230) (.slice (some ⟨go16, 0, none⟩) x6_2.length co16) x6_2 from (by (with_reducible repeat (first | apply Kd.R_alloc | apply Kd.R_drewN | apply Kd.R_drew)); exact HO_6.out))
                          obtain ⟨ce48, hcl48, hM48, hcc48, hfr48⟩ := Kd.R_elem HX48.out z46 (x7_1 : Int) (of_decide_eq_true (by first | (with_reducible assumption) | assumption)) (by have h_ : (x7_1 : Int) < ((x6_2.length : Int) : Int) := of_decide_eq_true (by first | (with_reducible assumption) | assumption); first | exact h_ | (have e_ := (Kd.R_reads' HO_6.out).1; omega) | simpa using h_)
                          obtain rfl := k46_openM hM48
                          have HP48 := Kd.R_seg HX48.out (x7_1 : Int) (of_decide_eq_true (by first | (with_reducible assumption) | assumption)) (by have h_ : (x7_1 : Int) < ((x6_2.length : Int) : Int) := of_decide_eq_true (by first | (with_reducible assumption) | assumption); first | exact h_ | (have e_ := (Kd.R_reads' HO_6.out).1; omega) | simpa using h_) (seg := [.int .i64 ((rd_T46 x6_2 (Go.bits .andNot .i64 x7_1 (ji24))).f0), .int .i64 (wrap64 (((rd_T46 x6_2 (Go.bits .andNot .i64 x7_1 (ji24))).f1) + (rd l0 x32_2)))]) (j := 0) hcl48 hcc48 (show 2 ≤ 2 from by decide) (x' := (⟨((rd_T46 x6_2 (Go.bits .andNot .i64 x7_1 (ji24))).f0), wrap64 (((rd_T46 x6_2 (Go.bits .andNot .i64 x7_1 (ji24))).f1) + (rd l0 x32_2))⟩ : S46)) (k46_mkM _ _ _ (⟨((rd_T46 x6_2 (Go.bits .andNot .i64 x7_1 (ji24))).f0), wrap64 (((rd_T46 x6_2 (Go.bits .andNot .i64 x7_1 (ji24))).f1) + (rd l0 x32_2))⟩ : S46) ) (fun _ hk => hk)
                          have hx48_0 := hcc48 0 _ rfl
                          (try simp only [show (k46).sz = 2 from rfl, Nat.mul_one, Nat.add_zero] at hx48_0)
                          have hf48_0 := hfr48 0
                          (try simp only [show (k46).sz = 2 from rfl, Nat.mul_one, Nat.add_zero] at hf48_0)
                          have hx48_1 := hcc48 1 _ rfl
                          (try simp only [show (k46).sz = 2 from rfl, Nat.mul_one, Nat.add_zero] at hx48_1)
                          have hf48_1 := hfr48 1
                          (try simp only [show (k46).sz = 2 from rfl, Nat.mul_one, Nat.add_zero] at hf48_1)
                          clear hcl48 hcc48 hfr48; (try clear hM48)
                          try go_wp2_with (first | ((with_reducible refine gate_store (t := 46) (p := 108) rfl ?_); refine store_event (t := 46) (p := 108) (v := ?vo_w49) (w1 := ((w46.setCell ⟨go16, (x7_1 : Int).toNat * 2, none⟩ (.int .i64 ((rd_T46 x6_2 (Go.bits .andNot .i64 x7_1 (ji24))).f0))).setCell ⟨go16, (x7_1 : Int).toNat * 2 + 1, none⟩ (.int .i64 (wrap64 (((rd_T46 x6_2 (Go.bits .andNot .i64 x7_1 (ji24))).f1) + (rd l0 x32_2)))))) ?hg ?ho ?hn ?hr ?_; (case ho => rfl); (case hg => rfl); (case hn => rfl); (case hr => first | (go_simp; done) | (go_simp; rfl)); intro w49 hw; have hg : w46.grownBy w49 (some go16) := (by rw [hw]; exact HP48.2); have hp_ : Kd.R k46 46 w49 w.heap.size (fun k_ => k_ ≠ gb230) (.slice (some ⟨go16, 0, none⟩) x6_2.length co16) y234 := (by rw [hw, Ny234.out]; exact HP48.1); clear HP48; have n0_ := Aside0.mk (hp_); have n1_ := Aside0.mk (blk_grown (g := gb230) (o := .cells #[.int .i64 ((rd_T46 x6_2 (Go.bits .andNot .i64 x7_1 (ji24))).f0), .int .i64 (wrap64 (((rd_T46 x6_2 (Go.bits .andNot .i64 x7_1 (ji24))).f1) + (rd l0 x32_2)))] 46 (0, 0)) (by (with_reducible repeat (first | refine blk_drewN ?_ _ | refine blk_drew ?_ | refine blk_alloc ?_ _)); exact BK230.out) hg (Kd.R_away HO_6.out (fun _ hk => hk))); have n2_ := Aside0.mk ((by rw [hw]; exact below_set (below_set (HB.out) GB16.out) GB16.out : Below w.heap.size w w49)); clear HO_6; clear BK230; clear HB; have HO_6 := n0_; have BK230 := n1_; have HB := n2_; clear n0_ n1_ n2_; clear hg hw hp_))
                          (try simp only [← hl6_2])
                          go_roundg kj26
                          case measure => have := HK1.out; have := HK2.out; have := HJ26.out; omega
                          case rel => exact ⟨(y234), (wrap64 (x32_2 + 1)), (by first | rfl | (simp; done) | (simp [*]; done)), H', ⟨by have := HK1.out; have := HK2.out; have := HJ26.out; omega⟩, ⟨by (try simp only [hl6_2]); (with_reducible repeat (first | apply Kd.R_alloc | apply Kd.R_drewN | apply Kd.R_drew)); exact Kd.R_mono HO_6.out (fun _ hk => trivial)⟩, ⟨by repeat (first | (with_reducible first | exact HB.out | apply below_alloc | apply pw_below_drewN | apply below_drew1 | refine below_set ?_ GE230.out) | exact HB.out)⟩⟩
                        ·rw [if_neg c41] at H
                         have c41b0 : decide (((rd_T46 x6_2 (Go.bits .andNot .i64 x7_1 (ji24))).f0) < ((rd_T46 x6_2 x7_1).f0)) = false := decide_eq_false c41
                         clear c41
                         by_cases c50 : ((rd_T46 x6_2 (Go.bits .andNot .i64 x7_1 (ji24))).f0) = ((rd_T46 x6_2 x7_1).f0)
                         ·as_aux_lemma =>
                           rw [if_pos c50] at H
                           have c50b0 : (((rd_T46 x6_2 (Go.bits .andNot .i64 x7_1 (ji24))).f0) == ((rd_T46 x6_2 x7_1).f0)) = true := beq_iff_eq.mpr c50
                           have c50b1 : (((rd_T46 x6_2 (Go.bits .andNot .i64 x7_1 (ji24))).f0) != ((rd_T46 x6_2 x7_1).f0)) = false := bne_eq_false_iff_eq.mpr c50
                           clear c50
                           by_cases c51 : (wrap64 (((rd_T46 x6_2 (Go.bits .andNot .i64 x7_1 (ji24))).f1) + (rd l0 x32_2))) < ((rd_T46 x6_2 x7_1).f1)
                           ·rw [if_pos c51] at H
                            have c51b0 : decide ((wrap64 (((rd_T46 x6_2 (Go.bits .andNot .i64 x7_1 (ji24))).f1) + (rd l0 x32_2))) < ((rd_T46 x6_2 x7_1).f1)) = true := decide_eq_true c51
                            clear c51
                            obtain ⟨y237, hy237⟩ : ∃ y_ : List (S46), y_ = (x6_2.set (x7_1 : Int).toNat (⟨((rd_T46 x6_2 (Go.bits .andNot .i64 x7_1 (ji24))).f0), wrap64 (((rd_T46 x6_2 (Go.bits .andNot .i64 x7_1 (ji24))).f1) + (rd l0 x32_2))⟩ : S46)) := ⟨_, rfl⟩
                            replace H : (impl_FewestStrips.l1 kj26 l0 a1 (l0.length : Int) y237 x7_1 (l0.length : Int) (wrap64 (x32_2 + 1))) = some r := by first | (rw [hy237]; with_reducible exact H) | (have H2_ := (Option.bind_some _ _).symm.trans H; rw [hy237]; with_reducible exact H2_) | (have H2_ := (Option.bind_some _ _).symm.trans H; with_reducible exact H2_) | with_reducible exact H | (rw [hy237]; exact H) | exact H
                            have Ny237 := Aside0.mk hy237
                            clear hy237
                            have H' := Aside0.mk H
                            clear H
                            try go_wp2
                            have n0_ := Aside0.mk (Kd.R_drew HO_6.out)
                            have n1_ := Aside0.mk (blk_drew BK230.out)
                            have n2_ := Aside0.mk (below_drew1 HB.out)
                            clear HO_6
                            clear BK230
                            clear HB
                            have HO_6 := n0_
                            have BK230 := n1_
                            have HB := n2_
                            clear n0_ n1_ n2_
                            have p232 : 0 ≤ (x32_2 : Int) := of_decide_eq_true (by first | (with_reducible assumption) | assumption)
                            have q232 : x32_2 < (l0.length : Int) := of_decide_eq_true (by first | (with_reducible assumption) | assumption)
                            obtain ⟨ad232, e232, hx232_0⟩ := Kd.at_int HR0.out x32_2 p232 q232
                            have hw232_0 := hx232_0
                            cases e232
                            replace hx232_0 := (HB.out.cell (World.block_lt_of_cell? w _ hx232_0)).trans hx232_0
                            replace p232 := eq_true p232
                            replace q232 := eq_true q232
                            refine start_ (n := 9) (S := fun w' => w'.cell? ⟨gb230, 0, none⟩ = some (.int .i64 ((rd_T46 x6_2 (Go.bits .andNot .i64 x7_1 (ji24))).f0)) ∧ w'.cell? ⟨gb230, 1, none⟩ = some (.int .i64 ((rd_T46 x6_2 (Go.bits .andNot .i64 x7_1 (ji24))).f1)) ∧ w'.cell? (ad232.add (x32_2).toNat) = some (.int .i64 (rd l0 x32_2))) (ds := [8]) W21_ (by kernel_rfl) rfl rfl ⟨(blk_cell BK230.out 0).trans rfl, (blk_cell BK230.out 1).trans rfl, ((HB.out.cell (World.block_lt_of_cell? w _ hw232_0)).trans hw232_0)⟩ (fun hHeld => ?_); refine with_tabW impl_FewestStrips.tab15 impl_FewestStrips.bits15 (fun HT_ HW_ => ?_)
                            generalize wc.drew = w53 at HO_6 BK230 HB hx232_0 hHeld ⊢
                            refine pz_ (i := 0) (N := some 61) W22_ rfl rfl (any_of HT_.out (by kernel_rfl)) ?_
                            refine pz_ (i := 2) (N := some 63) W23_ rfl rfl (any_of HT_.out (by kernel_rfl)) ?_
                            refine pz_ (i := 3) (N := some 64) W24_ rfl rfl (any_of HT_.out (by kernel_rfl)) ?_
                            refine pz_ (i := 4) (N := some 65) W25_ rfl rfl (any_of HT_.out (by kernel_rfl)) ?_
                            refine take_ (i := 1) (N := some 62) (v := ?_) (a' := ?_) W26_ rfl rfl (take_ofW HT_.out HW_.out (by kernel_rfl)) (fun _ _ _ h => h) (Or.inl ⟨by rfl, ?_⟩) hHeld ?_ ?_
                            rotate_left
                            ·rintro w' ⟨s0, s1, s2⟩
                             go_simp
                             with_reducible rfl
                            rotate_left
                            ·simp only [Act.put, List.setIfInBounds_toArray, List.set_cons_zero, List.set_cons_succ, i64_w, i32_w]
                             rfl
                            refine take_ (i := 5) (N := some 66) (v := ?_) (a' := ?_) W27_ rfl rfl (take_ofW HT_.out HW_.out (by kernel_rfl)) (fun _ _ _ h => h) (Or.inl ⟨by rfl, ?_⟩) hHeld ?_ ?_
                            rotate_left
                            ·rintro w' ⟨s0, s1, s2⟩
                             go_simp
                             with_reducible rfl
                            rotate_left
                            ·simp only [Act.put, List.setIfInBounds_toArray, List.set_cons_zero, List.set_cons_succ, i64_w, i32_w]
                             rfl
                            refine pz_ (i := 6) (N := some 67) W28_ rfl rfl (any_of HT_.out (by kernel_rfl)) ?_
                            refine pz_ (i := 7) (N := some 68) W29_ rfl rfl (any_of HT_.out (by kernel_rfl)) ?_
                            refine last_ (i := 8) (N := none) W30_ rfl rfl (one_of HT_.out (by kernel_rfl)) (by decide) (fun K hK => ?_)
                            have hs54 : w53.cell? ⟨gb230, 1, none⟩ = some (.int .i64 ((rd_T46 x6_2 (Go.bits .andNot .i64 x7_1 (ji24))).f1)) := (blk_cell BK230.out 1).trans rfl
                            have hfs54 := blk_frozen BK230.out 1
                            refine skip_ (w1 := ?_) (by rfl) rfl ?_ ?_
                            rotate_left
                            ·go_simp
                             rfl
                            refine hK.out _ _ ?_
                            clear hK K
                            refine done_ (done_of HT_.out (by kernel_rfl)) ?_
                            try go_wp2
                            have n0_ : Aside0 (Kd.R k46 46 (w53.setCell ⟨gb230, 1, none⟩ (.int .i64 (wrap64 (((rd_T46 x6_2 (Go.bits .andNot .i64 x7_1 (ji24))).f1) + (rd l0 x32_2))))) w.heap.size (fun k_ => k_ ≠ gb230) (.slice (some ⟨go16, 0, none⟩) x6_2.length co16) x6_2) := ⟨by (with_reducible repeat (first | apply Kd.R_alloc | apply Kd.R_drewN | apply Kd.R_drew)); exact Kd.R_mono (Kd.R_far (p := ⟨gb230, 1, none⟩) (Kd.R_mono HO_6.out (fun k_ hk => (⟨hk, hk⟩ : _ ∧ k_ ≠ gb230))) (fun _ hk => hk.2) (.int .i64 (wrap64 (((rd_T46 x6_2 (Go.bits .andNot .i64 x7_1 (ji24))).f1) + (rd l0 x32_2))))) (fun _ hk => hk.1)⟩
                            have n1_ : Aside0 ((w53.setCell ⟨gb230, 1, none⟩ (.int .i64 (wrap64 (((rd_T46 x6_2 (Go.bits .andNot .i64 x7_1 (ji24))).f1) + (rd l0 x32_2))))).heap[gb230]? = some (.cells #[.int .i64 ((rd_T46 x6_2 (Go.bits .andNot .i64 x7_1 (ji24))).f0), .int .i64 (wrap64 (((rd_T46 x6_2 (Go.bits .andNot .i64 x7_1 (ji24))).f1) + (rd l0 x32_2)))] 46 (0, 0))) := ⟨by (with_reducible repeat (first | refine blk_drewN ?_ _ | refine blk_drew ?_ | refine blk_alloc ?_ _)); refine blk_put (cs := #[.int .i64 ((rd_T46 x6_2 (Go.bits .andNot .i64 x7_1 (ji24))).f0), .int .i64 ((rd_T46 x6_2 (Go.bits .andNot .i64 x7_1 (ji24))).f1)]) ?_ 1 _ rfl; (with_reducible repeat (first | refine blk_drewN ?_ _ | refine blk_drew ?_ | refine blk_alloc ?_ _)); exact BK230.out⟩
                            have n2_ : Aside0 (Below w.heap.size w (w53.setCell ⟨gb230, 1, none⟩ (.int .i64 (wrap64 (((rd_T46 x6_2 (Go.bits .andNot .i64 x7_1 (ji24))).f1) + (rd l0 x32_2)))))) := ⟨by repeat (first | (with_reducible first | exact HB.out | apply below_alloc | apply pw_below_drewN | apply below_drew1 | refine below_set ?_ GE230.out) | exact HB.out)⟩
                            (try clear HO_6)
                            (try clear BK230)
                            (try clear HB)
                            generalize (w53.setCell ⟨gb230, 1, none⟩ (.int .i64 (wrap64 (((rd_T46 x6_2 (Go.bits .andNot .i64 x7_1 (ji24))).f1) + (rd l0 x32_2))))) = w55 at n0_ n1_ n2_ ⊢
                            have HO_6 := n0_
                            have BK230 := n1_
                            have HB := n2_
                            clear n0_ n1_ n2_
                            have n0_ := Aside0.mk (Kd.R_drew HO_6.out)
                            have n1_ := Aside0.mk (blk_drew BK230.out)
                            have n2_ := Aside0.mk (below_drew1 HB.out)
                            clear HO_6
                            clear BK230
                            clear HB
                            have HO_6 := n0_
                            have BK230 := n1_
                            have HB := n2_
                            clear n0_ n1_ n2_
                            have p233 : 0 ≤ (x7_1 : Int) := of_decide_eq_true (by first | (with_reducible assumption) | assumption)
                            have q233 : x7_1 < (x6_2.length : Int) := of_decide_eq_true (by first | (with_reducible assumption) | assumption)
                            obtain ⟨ad233, e233, hx233_0, hx233_1⟩ := at_T46 (Kd.R_reads' HO_6.out).2.2 x7_1 p233 q233
                            obtain rfl : (⟨go16, 0, none⟩ : Addr) = ad233 := (by injection e233)
                            (first | simp only [add_plain] at hx233_0 | simp only [add_at] at hx233_0 | simp only [Addr.add, Nat.zero_add] at hx233_0 | skip)
                            (first | simp only [add_plain] at hx233_1 | simp only [add_at] at hx233_1 | simp only [Addr.add, Nat.zero_add] at hx233_1 | skip)
                            replace p233 := eq_true p233
                            replace q233 := eq_true q233
                            have p235 : 0 ≤ (x7_1 : Int) := of_decide_eq_true (by first | (with_reducible assumption) | assumption)
                            have q235 : x7_1 < (x6_2.length : Int) := of_decide_eq_true (by first | (with_reducible assumption) | assumption)
                            obtain ⟨ad235, e235, hx235_0, hx235_1⟩ := at_T46 (Kd.R_reads' HO_6.out).2.2 x7_1 p235 q235
                            obtain rfl : (⟨go16, 0, none⟩ : Addr) = ad235 := (by injection e235)
                            (first | simp only [add_plain] at hx235_0 | simp only [add_at] at hx235_0 | simp only [Addr.add, Nat.zero_add] at hx235_0 | skip)
                            (first | simp only [add_plain] at hx235_1 | simp only [add_at] at hx235_1 | simp only [Addr.add, Nat.zero_add] at hx235_1 | skip)
                            replace p235 := eq_true p235
                            replace q235 := eq_true q235
                            have p236 : 0 ≤ (x7_1 : Int) := of_decide_eq_true (by first | (with_reducible assumption) | assumption)
                            have q236 : x7_1 < (x6_2.length : Int) := of_decide_eq_true (by first | (with_reducible assumption) | assumption)
                            obtain ⟨ad236, e236, hx236_0, hx236_1⟩ := at_T46 (Kd.R_reads' HO_6.out).2.2 x7_1 p236 q236
                            obtain rfl : (⟨go16, 0, none⟩ : Addr) = ad236 := (by injection e236)
                            (first | simp only [add_plain] at hx236_0 | simp only [add_at] at hx236_0 | simp only [Addr.add, Nat.zero_add] at hx236_0 | skip)
                            (first | simp only [add_plain] at hx236_1 | simp only [add_at] at hx236_1 | simp only [Addr.add, Nat.zero_add] at hx236_1 | skip)
                            replace p236 := eq_true p236
                            replace q236 := eq_true q236
                            refine start_ (n := 28) (S := fun w' => w'.cell? ⟨gb230, 0, none⟩ = some (.int .i64 ((rd_T46 x6_2 (Go.bits .andNot .i64 x7_1 (ji24))).f0)) ∧ w'.cell? ⟨gb230, 1, none⟩ = some (.int .i64 (wrap64 (((rd_T46 x6_2 (Go.bits .andNot .i64 x7_1 (ji24))).f1) + (rd l0 x32_2)))) ∧ w'.cell? ⟨go16, (x7_1).toNat * 2, none⟩ = some (.int .i64 ((rd_T46 x6_2 x7_1).f0)) ∧ w'.cell? ⟨go16, (x7_1).toNat * 2 + 1, none⟩ = some (.int .i64 ((rd_T46 x6_2 x7_1).f1)) ∧ w'.cell? ⟨go16, (x7_1).toNat * 2, none⟩ = some (.int .i64 ((rd_T46 x6_2 x7_1).f0)) ∧ w'.cell? ⟨go16, (x7_1).toNat * 2 + 1, none⟩ = some (.int .i64 ((rd_T46 x6_2 x7_1).f1)) ∧ w'.cell? ⟨go16, (x7_1).toNat * 2, none⟩ = some (.int .i64 ((rd_T46 x6_2 x7_1).f0)) ∧ w'.cell? ⟨go16, (x7_1).toNat * 2 + 1, none⟩ = some (.int .i64 ((rd_T46 x6_2 x7_1).f1))) (ds := []) W31_ (by kernel_rfl) rfl rfl ⟨(blk_cell BK230.out 0).trans rfl, (blk_cell BK230.out 1).trans rfl, hx233_0, hx233_1, hx235_0, hx235_1, hx236_0, hx236_1⟩ (fun hHeld => ?_); refine with_tabW impl_FewestStrips.tab17 impl_FewestStrips.bits17 (fun HT_ HW_ => ?_)
                            generalize w55.drew = w56 at HO_6 BK230 HB hx233_0 hx233_1 hx235_0 hx235_1 hx236_0 hx236_1 hHeld ⊢
                            refine pz_ (i := 0) (N := some 77) W32_ rfl rfl (any_of HT_.out (by kernel_rfl)) ?_
                            refine pz_ (i := 2) (N := some 79) W33_ rfl rfl (any_of HT_.out (by kernel_rfl)) ?_
                            refine pz_ (i := 3) (N := some 80) W34_ rfl rfl (any_of HT_.out (by kernel_rfl)) ?_
                            refine pz_ (i := 4) (N := some 81) W35_ rfl rfl (any_of HT_.out (by kernel_rfl)) ?_
                            refine pz_ (i := 5) (N := some 82) W36_ rfl rfl (any_of HT_.out (by kernel_rfl)) ?_
                            refine take_ (i := 1) (N := some 78) (v := ?_) (a' := ?_) W37_ rfl rfl (take_ofW HT_.out HW_.out (by kernel_rfl)) (fun _ _ _ h => h) (Or.inl ⟨by rfl, ?_⟩) hHeld ?_ ?_
                            rotate_left
                            ·rintro w' ⟨s0, s1, s2, s3, s4, s5, s6, s7⟩
                             go_simp
                             with_reducible rfl
                            rotate_left
                            ·simp only [Act.put, List.setIfInBounds_toArray, List.set_cons_zero, List.set_cons_succ, i64_w, i32_w]
                             rfl
                            refine take_ (i := 6) (N := some 83) (v := ?_) (a' := ?_) W38_ rfl rfl (take_ofW HT_.out HW_.out (by kernel_rfl)) (fun _ _ _ h => h) (Or.inl ⟨by rfl, ?_⟩) hHeld ?_ ?_
                            rotate_left
                            ·rintro w' ⟨s0, s1, s2, s3, s4, s5, s6, s7⟩
                             go_simp
                             with_reducible rfl
                            rotate_left
                            ·simp only [Act.put, List.setIfInBounds_toArray, List.set_cons_zero, List.set_cons_succ, i64_w, i32_w]
                             rfl
                            refine pz_ (i := 7) (N := some 84) W39_ rfl rfl (any_of HT_.out (by kernel_rfl)) ?_
                            refine pz_ (i := 8) (N := some 85) W40_ rfl rfl (any_of HT_.out (by kernel_rfl)) ?_
                            refine pz_ (i := 9) (N := some 86) W41_ rfl rfl (any_of HT_.out (by kernel_rfl)) ?_
                            refine pz_ (i := 11) (N := some 88) W60_ rfl rfl (any_of HT_.out (by kernel_rfl)) ?_
                            refine pz_ (i := 12) (N := some 89) W61_ rfl rfl (any_of HT_.out (by kernel_rfl)) ?_
                            refine pz_ (i := 13) (N := some 90) W62_ rfl rfl (any_of HT_.out (by kernel_rfl)) ?_
                            refine pz_ (i := 14) (N := some 91) W63_ rfl rfl (any_of HT_.out (by kernel_rfl)) ?_
                            refine take_ (i := 10) (N := some 87) (v := ?_) (a' := ?_) W46_ rfl rfl (take_ofW HT_.out HW_.out (by kernel_rfl)) (fun _ _ _ h => h) (Or.inl ⟨by rfl, ?_⟩) hHeld ?_ ?_
                            rotate_left
                            ·rintro w' ⟨s0, s1, s2, s3, s4, s5, s6, s7⟩
                             go_simp
                             with_reducible rfl
                            rotate_left
                            ·simp only [Act.put, List.setIfInBounds_toArray, List.set_cons_zero, List.set_cons_succ, i64_w, i32_w]
                             rfl
                            refine take_ (i := 15) (N := some 92) (v := ?_) (a' := ?_) W47_ rfl rfl (take_ofW HT_.out HW_.out (by kernel_rfl)) (fun _ _ _ h => h) (Or.inl ⟨by rfl, ?_⟩) hHeld ?_ ?_
                            rotate_left
                            ·rintro w' ⟨s0, s1, s2, s3, s4, s5, s6, s7⟩
                             go_simp
                             with_reducible rfl
                            rotate_left
                            ·simp only [Act.put, List.setIfInBounds_toArray, List.set_cons_zero, List.set_cons_succ, i64_w, i32_w]
                             rfl
                            refine pz_ (i := 16) (N := some 93) W48_ rfl rfl (any_of HT_.out (by kernel_rfl)) ?_
                            refine pz_ (i := 17) (N := some 94) W49_ rfl rfl (any_of HT_.out (by kernel_rfl)) ?_
                            refine pz_ (i := 18) (N := some 95) W50_ rfl rfl (any_of HT_.out (by kernel_rfl)) ?_
                            refine pz_ (i := 20) (N := some 97) W64_ rfl rfl (any_of HT_.out (by kernel_rfl)) ?_
                            refine pz_ (i := 21) (N := some 98) W65_ rfl rfl (any_of HT_.out (by kernel_rfl)) ?_
                            refine pz_ (i := 22) (N := some 99) W66_ rfl rfl (any_of HT_.out (by kernel_rfl)) ?_
                            refine pz_ (i := 23) (N := some 100) W67_ rfl rfl (any_of HT_.out (by kernel_rfl)) ?_
                            refine take_ (i := 19) (N := some 96) (v := ?_) (a' := ?_) W55_ rfl rfl (take_ofW HT_.out HW_.out (by kernel_rfl)) (fun _ _ _ h => h) (Or.inl ⟨by rfl, ?_⟩) hHeld ?_ ?_
                            rotate_left
                            ·rintro w' ⟨s0, s1, s2, s3, s4, s5, s6, s7⟩
                             go_simp
                             with_reducible rfl
                            rotate_left
                            ·simp only [Act.put, List.setIfInBounds_toArray, List.set_cons_zero, List.set_cons_succ, i64_w, i32_w]
                             rfl
                            refine take_ (i := 24) (N := some 101) (v := ?_) (a' := ?_) W56_ rfl rfl (take_ofW HT_.out HW_.out (by kernel_rfl)) (fun _ _ _ h => h) (Or.inl ⟨by rfl, ?_⟩) hHeld ?_ ?_
                            rotate_left
                            ·rintro w' ⟨s0, s1, s2, s3, s4, s5, s6, s7⟩
                             go_simp
                             with_reducible rfl
                            rotate_left
                            ·simp only [Act.put, List.setIfInBounds_toArray, List.set_cons_zero, List.set_cons_succ, i64_w, i32_w]
                             rfl
                            refine pz_ (i := 25) (N := some 102) W57_ rfl rfl (any_of HT_.out (by kernel_rfl)) ?_
                            refine pz_ (i := 26) (N := some 103) W58_ rfl rfl (any_of HT_.out (by kernel_rfl)) ?_
                            refine pz_ (i := 27) (N := some 104) W59_ rfl rfl (any_of HT_.out (by kernel_rfl)) ?_
                            refine done_ (done_of HT_.out (by kernel_rfl)) ?_
                            have hcz57_0 : w56.cell? ⟨gb230, 0, none⟩ = some (.int .i64 ((rd_T46 x6_2 (Go.bits .andNot .i64 x7_1 (ji24))).f0)) := (blk_cell BK230.out 0).trans rfl
                            have hcz57_1 : w56.cell? ⟨gb230, 1, none⟩ = some (.int .i64 (wrap64 (((rd_T46 x6_2 (Go.bits .andNot .i64 x7_1 (ji24))).f1) + (rd l0 x32_2)))) := (blk_cell BK230.out 1).trans rfl
                            have hfz57_0 := blk_frozen BK230.out 0
                            have hfz57_1 := blk_frozen BK230.out 1
                            have p52 : 0 ≤ (x7_1 : Int) := of_decide_eq_true (by first | (with_reducible assumption) | assumption)
                            have q52 : (x7_1 : Int) < ((x6_2.length : Int) : Int) := of_decide_eq_true (by first | (with_reducible assumption) | assumption)
                            obtain ⟨ce52, hcl52, hM52, hcc52, hfr52⟩ := Kd.R_elem HO_6.out z46 (x7_1 : Int) p52 q52
                            obtain rfl := k46_openM hM52
                            have hx52_0 : w56.cell? ⟨go16, (x7_1 : Int).toNat * 2, none⟩ = some (.int .i64 ((rd_T46 x6_2 x7_1).f0)) := hcc52 0 _ rfl
                            have hx52_1 : w56.cell? ⟨go16, (x7_1 : Int).toNat * 2 + 1, none⟩ = some (.int .i64 ((rd_T46 x6_2 x7_1).f1)) := hcc52 1 _ rfl
                            have hf52_0 : w56.frozen? ⟨go16, (x7_1 : Int).toNat * 2, none⟩ = false := hfr52 0
                            have hf52_1 : w56.frozen? ⟨go16, (x7_1 : Int).toNat * 2 + 1, none⟩ = false := hfr52 1
                            clear hcl52 hcc52 hfr52; (try clear hM52)
                            replace p52 := eq_true p52
                            replace q52 := eq_true q52
                            have HX58 := Aside0.mk (show Kd.R k46 46 w56 w.heap.size (fun k_ => k_ ≠ gb230) (.slice (some ⟨go16, 0, none⟩) x6_2.length co16) x6_2 from (by (with_reducible repeat (first | apply Kd.R_alloc | apply Kd.R_drewN | apply Kd.R_drew)); exact HO_6.out))
                            obtain ⟨ce58, hcl58, hM58, hcc58, hfr58⟩ := Kd.R_elem HX58.out z46 (x7_1 : Int) (of_decide_eq_true (by first | (with_reducible assumption) | assumption)) (by have h_ : (x7_1 : Int) < ((x6_2.length : Int) : Int) := of_decide_eq_true (by first | (with_reducible assumption) | assumption); first | exact h_ | (have e_ := (Kd.R_reads' HO_6.out).1; omega) | simpa using h_)
                            obtain rfl := k46_openM hM58
                            have HP58 := Kd.R_seg HX58.out (x7_1 : Int) (of_decide_eq_true (by first | (with_reducible assumption) | assumption)) (by have h_ : (x7_1 : Int) < ((x6_2.length : Int) : Int) := of_decide_eq_true (by first | (with_reducible assumption) | assumption); first | exact h_ | (have e_ := (Kd.R_reads' HO_6.out).1; omega) | simpa using h_) (seg := [.int .i64 ((rd_T46 x6_2 (Go.bits .andNot .i64 x7_1 (ji24))).f0), .int .i64 (wrap64 (((rd_T46 x6_2 (Go.bits .andNot .i64 x7_1 (ji24))).f1) + (rd l0 x32_2)))]) (j := 0) hcl58 hcc58 (show 2 ≤ 2 from by decide) (x' := (⟨((rd_T46 x6_2 (Go.bits .andNot .i64 x7_1 (ji24))).f0), wrap64 (((rd_T46 x6_2 (Go.bits .andNot .i64 x7_1 (ji24))).f1) + (rd l0 x32_2))⟩ : S46)) (k46_mkM _ _ _ (⟨((rd_T46 x6_2 (Go.bits .andNot .i64 x7_1 (ji24))).f0), wrap64 (((rd_T46 x6_2 (Go.bits .andNot .i64 x7_1 (ji24))).f1) + (rd l0 x32_2))⟩ : S46) ) (fun _ hk => hk)
                            have hx58_0 := hcc58 0 _ rfl
                            (try simp only [show (k46).sz = 2 from rfl, Nat.mul_one, Nat.add_zero] at hx58_0)
                            have hf58_0 := hfr58 0
                            (try simp only [show (k46).sz = 2 from rfl, Nat.mul_one, Nat.add_zero] at hf58_0)
                            have hx58_1 := hcc58 1 _ rfl
                            (try simp only [show (k46).sz = 2 from rfl, Nat.mul_one, Nat.add_zero] at hx58_1)
                            have hf58_1 := hfr58 1
                            (try simp only [show (k46).sz = 2 from rfl, Nat.mul_one, Nat.add_zero] at hf58_1)
                            clear hcl58 hcc58 hfr58; (try clear hM58)
                            try go_wp2_with (first | ((with_reducible refine gate_store (t := 46) (p := 108) rfl ?_); refine store_event (t := 46) (p := 108) (v := ?vo_w59) (w1 := ((w56.setCell ⟨go16, (x7_1 : Int).toNat * 2, none⟩ (.int .i64 ((rd_T46 x6_2 (Go.bits .andNot .i64 x7_1 (ji24))).f0))).setCell ⟨go16, (x7_1 : Int).toNat * 2 + 1, none⟩ (.int .i64 (wrap64 (((rd_T46 x6_2 (Go.bits .andNot .i64 x7_1 (ji24))).f1) + (rd l0 x32_2)))))) ?hg ?ho ?hn ?hr ?_; (case ho => rfl); (case hg => rfl); (case hn => rfl); (case hr => first | (go_simp; done) | (go_simp; rfl)); intro w59 hw; have hg : w56.grownBy w59 (some go16) := (by rw [hw]; exact HP58.2); have hp_ : Kd.R k46 46 w59 w.heap.size (fun k_ => k_ ≠ gb230) (.slice (some ⟨go16, 0, none⟩) x6_2.length co16) y237 := (by rw [hw, Ny237.out]; exact HP58.1); clear HP58; have n0_ := Aside0.mk (hp_); have n1_ := Aside0.mk (blk_grown (g := gb230) (o := .cells #[.int .i64 ((rd_T46 x6_2 (Go.bits .andNot .i64 x7_1 (ji24))).f0), .int .i64 (wrap64 (((rd_T46 x6_2 (Go.bits .andNot .i64 x7_1 (ji24))).f1) + (rd l0 x32_2)))] 46 (0, 0)) (by (with_reducible repeat (first | refine blk_drewN ?_ _ | refine blk_drew ?_ | refine blk_alloc ?_ _)); exact BK230.out) hg (Kd.R_away HO_6.out (fun _ hk => hk))); have n2_ := Aside0.mk ((by rw [hw]; exact below_set (below_set (HB.out) GB16.out) GB16.out : Below w.heap.size w w59)); clear HO_6; clear BK230; clear HB; have HO_6 := n0_; have BK230 := n1_; have HB := n2_; clear n0_ n1_ n2_; clear hg hw hp_))
                            (try simp only [← hl6_2])
                            go_roundg kj26
                            case measure => have := HK1.out; have := HK2.out; have := HJ26.out; omega
                            case rel => exact ⟨(y237), (wrap64 (x32_2 + 1)), (by first | rfl | (simp; done) | (simp [*]; done)), H', ⟨by have := HK1.out; have := HK2.out; have := HJ26.out; omega⟩, ⟨by (try simp only [hl6_2]); (with_reducible repeat (first | apply Kd.R_alloc | apply Kd.R_drewN | apply Kd.R_drew)); exact Kd.R_mono HO_6.out (fun _ hk => trivial)⟩, ⟨by repeat (first | (with_reducible first | exact HB.out | apply below_alloc | apply pw_below_drewN | apply below_drew1 | refine below_set ?_ GE230.out) | exact HB.out)⟩⟩
                           ·rw [if_neg c51] at H
                            have c51b0 : decide ((wrap64 (((rd_T46 x6_2 (Go.bits .andNot .i64 x7_1 (ji24))).f1) + (rd l0 x32_2))) < ((rd_T46 x6_2 x7_1).f1)) = false := decide_eq_false c51
                            clear c51
                            have H' := Aside0.mk H
                            clear H
                            try go_wp2
                            have n0_ := Aside0.mk (Kd.R_drew HO_6.out)
                            have n1_ := Aside0.mk (blk_drew BK230.out)
                            have n2_ := Aside0.mk (below_drew1 HB.out)
                            clear HO_6
                            clear BK230
                            clear HB
                            have HO_6 := n0_
                            have BK230 := n1_
                            have HB := n2_
                            clear n0_ n1_ n2_
                            have p232 : 0 ≤ (x32_2 : Int) := of_decide_eq_true (by first | (with_reducible assumption) | assumption)
                            have q232 : x32_2 < (l0.length : Int) := of_decide_eq_true (by first | (with_reducible assumption) | assumption)
                            obtain ⟨ad232, e232, hx232_0⟩ := Kd.at_int HR0.out x32_2 p232 q232
                            have hw232_0 := hx232_0
                            cases e232
                            replace hx232_0 := (HB.out.cell (World.block_lt_of_cell? w _ hx232_0)).trans hx232_0
                            replace p232 := eq_true p232
                            replace q232 := eq_true q232
                            refine start_ (n := 9) (S := fun w' => w'.cell? ⟨gb230, 0, none⟩ = some (.int .i64 ((rd_T46 x6_2 (Go.bits .andNot .i64 x7_1 (ji24))).f0)) ∧ w'.cell? ⟨gb230, 1, none⟩ = some (.int .i64 ((rd_T46 x6_2 (Go.bits .andNot .i64 x7_1 (ji24))).f1)) ∧ w'.cell? (ad232.add (x32_2).toNat) = some (.int .i64 (rd l0 x32_2))) (ds := [8]) W21_ (by kernel_rfl) rfl rfl ⟨(blk_cell BK230.out 0).trans rfl, (blk_cell BK230.out 1).trans rfl, ((HB.out.cell (World.block_lt_of_cell? w _ hw232_0)).trans hw232_0)⟩ (fun hHeld => ?_); refine with_tabW impl_FewestStrips.tab15 impl_FewestStrips.bits15 (fun HT_ HW_ => ?_)
                            generalize wc.drew = w60 at HO_6 BK230 HB hx232_0 hHeld ⊢
                            refine pz_ (i := 0) (N := some 61) W22_ rfl rfl (any_of HT_.out (by kernel_rfl)) ?_
                            refine pz_ (i := 2) (N := some 63) W23_ rfl rfl (any_of HT_.out (by kernel_rfl)) ?_
                            refine pz_ (i := 3) (N := some 64) W24_ rfl rfl (any_of HT_.out (by kernel_rfl)) ?_
                            refine pz_ (i := 4) (N := some 65) W25_ rfl rfl (any_of HT_.out (by kernel_rfl)) ?_
                            refine take_ (i := 1) (N := some 62) (v := ?_) (a' := ?_) W26_ rfl rfl (take_ofW HT_.out HW_.out (by kernel_rfl)) (fun _ _ _ h => h) (Or.inl ⟨by rfl, ?_⟩) hHeld ?_ ?_
                            rotate_left
                            ·rintro w' ⟨s0, s1, s2⟩
                             go_simp
                             with_reducible rfl
                            rotate_left
                            ·simp only [Act.put, List.setIfInBounds_toArray, List.set_cons_zero, List.set_cons_succ, i64_w, i32_w]
                             rfl
                            refine take_ (i := 5) (N := some 66) (v := ?_) (a' := ?_) W27_ rfl rfl (take_ofW HT_.out HW_.out (by kernel_rfl)) (fun _ _ _ h => h) (Or.inl ⟨by rfl, ?_⟩) hHeld ?_ ?_
                            rotate_left
                            ·rintro w' ⟨s0, s1, s2⟩
                             go_simp
                             with_reducible rfl
                            rotate_left
                            ·simp only [Act.put, List.setIfInBounds_toArray, List.set_cons_zero, List.set_cons_succ, i64_w, i32_w]
                             rfl
                            refine pz_ (i := 6) (N := some 67) W28_ rfl rfl (any_of HT_.out (by kernel_rfl)) ?_
                            refine pz_ (i := 7) (N := some 68) W29_ rfl rfl (any_of HT_.out (by kernel_rfl)) ?_
                            refine last_ (i := 8) (N := none) W30_ rfl rfl (one_of HT_.out (by kernel_rfl)) (by decide) (fun K hK => ?_)
                            have hs61 : w60.cell? ⟨gb230, 1, none⟩ = some (.int .i64 ((rd_T46 x6_2 (Go.bits .andNot .i64 x7_1 (ji24))).f1)) := (blk_cell BK230.out 1).trans rfl
                            have hfs61 := blk_frozen BK230.out 1
                            refine skip_ (w1 := ?_) (by rfl) rfl ?_ ?_
                            rotate_left
                            ·go_simp
                             rfl
                            refine hK.out _ _ ?_
                            clear hK K
                            refine done_ (done_of HT_.out (by kernel_rfl)) ?_
                            try go_wp2
                            have n0_ : Aside0 (Kd.R k46 46 (w60.setCell ⟨gb230, 1, none⟩ (.int .i64 (wrap64 (((rd_T46 x6_2 (Go.bits .andNot .i64 x7_1 (ji24))).f1) + (rd l0 x32_2))))) w.heap.size (fun k_ => k_ ≠ gb230) (.slice (some ⟨go16, 0, none⟩) x6_2.length co16) x6_2) := ⟨by (with_reducible repeat (first | apply Kd.R_alloc | apply Kd.R_drewN | apply Kd.R_drew)); exact Kd.R_mono (Kd.R_far (p := ⟨gb230, 1, none⟩) (Kd.R_mono HO_6.out (fun k_ hk => (⟨hk, hk⟩ : _ ∧ k_ ≠ gb230))) (fun _ hk => hk.2) (.int .i64 (wrap64 (((rd_T46 x6_2 (Go.bits .andNot .i64 x7_1 (ji24))).f1) + (rd l0 x32_2))))) (fun _ hk => hk.1)⟩
                            have n1_ : Aside0 ((w60.setCell ⟨gb230, 1, none⟩ (.int .i64 (wrap64 (((rd_T46 x6_2 (Go.bits .andNot .i64 x7_1 (ji24))).f1) + (rd l0 x32_2))))).heap[gb230]? = some (.cells #[.int .i64 ((rd_T46 x6_2 (Go.bits .andNot .i64 x7_1 (ji24))).f0), .int .i64 (wrap64 (((rd_T46 x6_2 (Go.bits .andNot .i64 x7_1 (ji24))).f1) + (rd l0 x32_2)))] 46 (0, 0))) := ⟨by (with_reducible repeat (first | refine blk_drewN ?_ _ | refine blk_drew ?_ | refine blk_alloc ?_ _)); refine blk_put (cs := #[.int .i64 ((rd_T46 x6_2 (Go.bits .andNot .i64 x7_1 (ji24))).f0), .int .i64 ((rd_T46 x6_2 (Go.bits .andNot .i64 x7_1 (ji24))).f1)]) ?_ 1 _ rfl; (with_reducible repeat (first | refine blk_drewN ?_ _ | refine blk_drew ?_ | refine blk_alloc ?_ _)); exact BK230.out⟩
                            have n2_ : Aside0 (Below w.heap.size w (w60.setCell ⟨gb230, 1, none⟩ (.int .i64 (wrap64 (((rd_T46 x6_2 (Go.bits .andNot .i64 x7_1 (ji24))).f1) + (rd l0 x32_2)))))) := ⟨by repeat (first | (with_reducible first | exact HB.out | apply below_alloc | apply pw_below_drewN | apply below_drew1 | refine below_set ?_ GE230.out) | exact HB.out)⟩
                            (try clear HO_6)
                            (try clear BK230)
                            (try clear HB)
                            generalize (w60.setCell ⟨gb230, 1, none⟩ (.int .i64 (wrap64 (((rd_T46 x6_2 (Go.bits .andNot .i64 x7_1 (ji24))).f1) + (rd l0 x32_2))))) = w62 at n0_ n1_ n2_ ⊢
                            have HO_6 := n0_
                            have BK230 := n1_
                            have HB := n2_
                            clear n0_ n1_ n2_
                            have n0_ := Aside0.mk (Kd.R_drew HO_6.out)
                            have n1_ := Aside0.mk (blk_drew BK230.out)
                            have n2_ := Aside0.mk (below_drew1 HB.out)
                            clear HO_6
                            clear BK230
                            clear HB
                            have HO_6 := n0_
                            have BK230 := n1_
                            have HB := n2_
                            clear n0_ n1_ n2_
                            have p233 : 0 ≤ (x7_1 : Int) := of_decide_eq_true (by first | (with_reducible assumption) | assumption)
                            have q233 : x7_1 < (x6_2.length : Int) := of_decide_eq_true (by first | (with_reducible assumption) | assumption)
                            obtain ⟨ad233, e233, hx233_0, hx233_1⟩ := at_T46 (Kd.R_reads' HO_6.out).2.2 x7_1 p233 q233
                            obtain rfl : (⟨go16, 0, none⟩ : Addr) = ad233 := (by injection e233)
                            (first | simp only [add_plain] at hx233_0 | simp only [add_at] at hx233_0 | simp only [Addr.add, Nat.zero_add] at hx233_0 | skip)
                            (first | simp only [add_plain] at hx233_1 | simp only [add_at] at hx233_1 | simp only [Addr.add, Nat.zero_add] at hx233_1 | skip)
                            replace p233 := eq_true p233
                            replace q233 := eq_true q233
                            have p235 : 0 ≤ (x7_1 : Int) := of_decide_eq_true (by first | (with_reducible assumption) | assumption)
                            have q235 : x7_1 < (x6_2.length : Int) := of_decide_eq_true (by first | (with_reducible assumption) | assumption)
                            obtain ⟨ad235, e235, hx235_0, hx235_1⟩ := at_T46 (Kd.R_reads' HO_6.out).2.2 x7_1 p235 q235
                            obtain rfl : (⟨go16, 0, none⟩ : Addr) = ad235 := (by injection e235)
                            (first | simp only [add_plain] at hx235_0 | simp only [add_at] at hx235_0 | simp only [Addr.add, Nat.zero_add] at hx235_0 | skip)
                            (first | simp only [add_plain] at hx235_1 | simp only [add_at] at hx235_1 | simp only [Addr.add, Nat.zero_add] at hx235_1 | skip)
                            replace p235 := eq_true p235
                            replace q235 := eq_true q235
                            have p236 : 0 ≤ (x7_1 : Int) := of_decide_eq_true (by first | (with_reducible assumption) | assumption)
                            have q236 : x7_1 < (x6_2.length : Int) := of_decide_eq_true (by first | (with_reducible assumption) | assumption)
                            obtain ⟨ad236, e236, hx236_0, hx236_1⟩ := at_T46 (Kd.R_reads' HO_6.out).2.2 x7_1 p236 q236
                            obtain rfl : (⟨go16, 0, none⟩ : Addr) = ad236 := (by injection e236)
                            (first | simp only [add_plain] at hx236_0 | simp only [add_at] at hx236_0 | simp only [Addr.add, Nat.zero_add] at hx236_0 | skip)
                            (first | simp only [add_plain] at hx236_1 | simp only [add_at] at hx236_1 | simp only [Addr.add, Nat.zero_add] at hx236_1 | skip)
                            replace p236 := eq_true p236
                            replace q236 := eq_true q236
                            refine start_ (n := 28) (S := fun w' => w'.cell? ⟨gb230, 0, none⟩ = some (.int .i64 ((rd_T46 x6_2 (Go.bits .andNot .i64 x7_1 (ji24))).f0)) ∧ w'.cell? ⟨gb230, 1, none⟩ = some (.int .i64 (wrap64 (((rd_T46 x6_2 (Go.bits .andNot .i64 x7_1 (ji24))).f1) + (rd l0 x32_2)))) ∧ w'.cell? ⟨go16, (x7_1).toNat * 2, none⟩ = some (.int .i64 ((rd_T46 x6_2 x7_1).f0)) ∧ w'.cell? ⟨go16, (x7_1).toNat * 2 + 1, none⟩ = some (.int .i64 ((rd_T46 x6_2 x7_1).f1)) ∧ w'.cell? ⟨go16, (x7_1).toNat * 2, none⟩ = some (.int .i64 ((rd_T46 x6_2 x7_1).f0)) ∧ w'.cell? ⟨go16, (x7_1).toNat * 2 + 1, none⟩ = some (.int .i64 ((rd_T46 x6_2 x7_1).f1)) ∧ w'.cell? ⟨go16, (x7_1).toNat * 2, none⟩ = some (.int .i64 ((rd_T46 x6_2 x7_1).f0)) ∧ w'.cell? ⟨go16, (x7_1).toNat * 2 + 1, none⟩ = some (.int .i64 ((rd_T46 x6_2 x7_1).f1))) (ds := []) W31_ (by kernel_rfl) rfl rfl ⟨(blk_cell BK230.out 0).trans rfl, (blk_cell BK230.out 1).trans rfl, hx233_0, hx233_1, hx235_0, hx235_1, hx236_0, hx236_1⟩ (fun hHeld => ?_); refine with_tabW impl_FewestStrips.tab17 impl_FewestStrips.bits17 (fun HT_ HW_ => ?_)
                            generalize w62.drew = w63 at HO_6 BK230 HB hx233_0 hx233_1 hx235_0 hx235_1 hx236_0 hx236_1 hHeld ⊢
                            refine pz_ (i := 0) (N := some 77) W32_ rfl rfl (any_of HT_.out (by kernel_rfl)) ?_
                            refine pz_ (i := 2) (N := some 79) W33_ rfl rfl (any_of HT_.out (by kernel_rfl)) ?_
                            refine pz_ (i := 3) (N := some 80) W34_ rfl rfl (any_of HT_.out (by kernel_rfl)) ?_
                            refine pz_ (i := 4) (N := some 81) W35_ rfl rfl (any_of HT_.out (by kernel_rfl)) ?_
                            refine pz_ (i := 5) (N := some 82) W36_ rfl rfl (any_of HT_.out (by kernel_rfl)) ?_
                            refine take_ (i := 1) (N := some 78) (v := ?_) (a' := ?_) W37_ rfl rfl (take_ofW HT_.out HW_.out (by kernel_rfl)) (fun _ _ _ h => h) (Or.inl ⟨by rfl, ?_⟩) hHeld ?_ ?_
                            rotate_left
                            ·rintro w' ⟨s0, s1, s2, s3, s4, s5, s6, s7⟩
                             go_simp
                             with_reducible rfl
                            rotate_left
                            ·simp only [Act.put, List.setIfInBounds_toArray, List.set_cons_zero, List.set_cons_succ, i64_w, i32_w]
                             rfl
                            refine take_ (i := 6) (N := some 83) (v := ?_) (a' := ?_) W38_ rfl rfl (take_ofW HT_.out HW_.out (by kernel_rfl)) (fun _ _ _ h => h) (Or.inl ⟨by rfl, ?_⟩) hHeld ?_ ?_
                            rotate_left
                            ·rintro w' ⟨s0, s1, s2, s3, s4, s5, s6, s7⟩
                             go_simp
                             with_reducible rfl
                            rotate_left
                            ·simp only [Act.put, List.setIfInBounds_toArray, List.set_cons_zero, List.set_cons_succ, i64_w, i32_w]
                             rfl
                            refine pz_ (i := 7) (N := some 84) W39_ rfl rfl (any_of HT_.out (by kernel_rfl)) ?_
                            refine pz_ (i := 8) (N := some 85) W40_ rfl rfl (any_of HT_.out (by kernel_rfl)) ?_
                            refine pz_ (i := 9) (N := some 86) W41_ rfl rfl (any_of HT_.out (by kernel_rfl)) ?_
                            refine pz_ (i := 11) (N := some 88) W60_ rfl rfl (any_of HT_.out (by kernel_rfl)) ?_
                            refine pz_ (i := 12) (N := some 89) W61_ rfl rfl (any_of HT_.out (by kernel_rfl)) ?_
                            refine pz_ (i := 13) (N := some 90) W62_ rfl rfl (any_of HT_.out (by kernel_rfl)) ?_
                            refine pz_ (i := 14) (N := some 91) W63_ rfl rfl (any_of HT_.out (by kernel_rfl)) ?_
                            refine take_ (i := 10) (N := some 87) (v := ?_) (a' := ?_) W46_ rfl rfl (take_ofW HT_.out HW_.out (by kernel_rfl)) (fun _ _ _ h => h) (Or.inl ⟨by rfl, ?_⟩) hHeld ?_ ?_
                            rotate_left
                            ·rintro w' ⟨s0, s1, s2, s3, s4, s5, s6, s7⟩
                             go_simp
                             with_reducible rfl
                            rotate_left
                            ·simp only [Act.put, List.setIfInBounds_toArray, List.set_cons_zero, List.set_cons_succ, i64_w, i32_w]
                             rfl
                            refine take_ (i := 15) (N := some 92) (v := ?_) (a' := ?_) W47_ rfl rfl (take_ofW HT_.out HW_.out (by kernel_rfl)) (fun _ _ _ h => h) (Or.inl ⟨by rfl, ?_⟩) hHeld ?_ ?_
                            rotate_left
                            ·rintro w' ⟨s0, s1, s2, s3, s4, s5, s6, s7⟩
                             go_simp
                             with_reducible rfl
                            rotate_left
                            ·simp only [Act.put, List.setIfInBounds_toArray, List.set_cons_zero, List.set_cons_succ, i64_w, i32_w]
                             rfl
                            refine pz_ (i := 16) (N := some 93) W48_ rfl rfl (any_of HT_.out (by kernel_rfl)) ?_
                            refine pz_ (i := 17) (N := some 94) W49_ rfl rfl (any_of HT_.out (by kernel_rfl)) ?_
                            refine pz_ (i := 18) (N := some 95) W50_ rfl rfl (any_of HT_.out (by kernel_rfl)) ?_
                            refine pz_ (i := 20) (N := some 97) W64_ rfl rfl (any_of HT_.out (by kernel_rfl)) ?_
                            refine pz_ (i := 21) (N := some 98) W65_ rfl rfl (any_of HT_.out (by kernel_rfl)) ?_
                            refine pz_ (i := 22) (N := some 99) W66_ rfl rfl (any_of HT_.out (by kernel_rfl)) ?_
                            refine pz_ (i := 23) (N := some 100) W67_ rfl rfl (any_of HT_.out (by kernel_rfl)) ?_
                            refine take_ (i := 19) (N := some 96) (v := ?_) (a' := ?_) W55_ rfl rfl (take_ofW HT_.out HW_.out (by kernel_rfl)) (fun _ _ _ h => h) (Or.inl ⟨by rfl, ?_⟩) hHeld ?_ ?_
                            rotate_left
                            ·rintro w' ⟨s0, s1, s2, s3, s4, s5, s6, s7⟩
                             go_simp
                             with_reducible rfl
                            rotate_left
                            ·simp only [Act.put, List.setIfInBounds_toArray, List.set_cons_zero, List.set_cons_succ, i64_w, i32_w]
                             rfl
                            refine take_ (i := 24) (N := some 101) (v := ?_) (a' := ?_) W56_ rfl rfl (take_ofW HT_.out HW_.out (by kernel_rfl)) (fun _ _ _ h => h) (Or.inl ⟨by rfl, ?_⟩) hHeld ?_ ?_
                            rotate_left
                            ·rintro w' ⟨s0, s1, s2, s3, s4, s5, s6, s7⟩
                             go_simp
                             with_reducible rfl
                            rotate_left
                            ·simp only [Act.put, List.setIfInBounds_toArray, List.set_cons_zero, List.set_cons_succ, i64_w, i32_w]
                             rfl
                            refine pz_ (i := 25) (N := some 102) W57_ rfl rfl (any_of HT_.out (by kernel_rfl)) ?_
                            refine pz_ (i := 26) (N := some 103) W58_ rfl rfl (any_of HT_.out (by kernel_rfl)) ?_
                            refine pz_ (i := 27) (N := some 104) W59_ rfl rfl (any_of HT_.out (by kernel_rfl)) ?_
                            refine done_ (done_of HT_.out (by kernel_rfl)) ?_
                            try go_wp2
                            (try simp only [← hl6_2])
                            go_roundg kj26
                            case measure => have := HK1.out; have := HK2.out; have := HJ26.out; omega
                            case rel => exact ⟨(x6_2), (wrap64 (x32_2 + 1)), (by first | rfl | (simp; done) | (simp [*]; done)), H', ⟨by have := HK1.out; have := HK2.out; have := HJ26.out; omega⟩, ⟨by (try simp only [hl6_2]); (with_reducible repeat (first | apply Kd.R_alloc | apply Kd.R_drewN | apply Kd.R_drew)); exact Kd.R_mono HO_6.out (fun _ hk => trivial)⟩, ⟨by repeat (first | (with_reducible first | exact HB.out | apply below_alloc | apply pw_below_drewN | apply below_drew1 | refine below_set ?_ GE230.out) | exact HB.out)⟩⟩
                         ·as_aux_lemma =>
                           rw [if_neg c50] at H
                           have c50b0 : (((rd_T46 x6_2 (Go.bits .andNot .i64 x7_1 (ji24))).f0) == ((rd_T46 x6_2 x7_1).f0)) = false := beq_eq_false_iff_ne.mpr c50
                           have c50b1 : (((rd_T46 x6_2 (Go.bits .andNot .i64 x7_1 (ji24))).f0) != ((rd_T46 x6_2 x7_1).f0)) = true := bne_iff_ne.mpr c50
                           have H' := Aside0.mk H
                           clear H
                           try go_wp2
                           have n0_ := Aside0.mk (Kd.R_drew HO_6.out)
                           have n1_ := Aside0.mk (blk_drew BK230.out)
                           have n2_ := Aside0.mk (below_drew1 HB.out)
                           clear HO_6
                           clear BK230
                           clear HB
                           have HO_6 := n0_
                           have BK230 := n1_
                           have HB := n2_
                           clear n0_ n1_ n2_
                           have p232 : 0 ≤ (x32_2 : Int) := of_decide_eq_true (by first | (with_reducible assumption) | assumption)
                           have q232 : x32_2 < (l0.length : Int) := of_decide_eq_true (by first | (with_reducible assumption) | assumption)
                           obtain ⟨ad232, e232, hx232_0⟩ := Kd.at_int HR0.out x32_2 p232 q232
                           have hw232_0 := hx232_0
                           cases e232
                           replace hx232_0 := (HB.out.cell (World.block_lt_of_cell? w _ hx232_0)).trans hx232_0
                           replace p232 := eq_true p232
                           replace q232 := eq_true q232
                           refine start_ (n := 9) (S := fun w' => w'.cell? ⟨gb230, 0, none⟩ = some (.int .i64 ((rd_T46 x6_2 (Go.bits .andNot .i64 x7_1 (ji24))).f0)) ∧ w'.cell? ⟨gb230, 1, none⟩ = some (.int .i64 ((rd_T46 x6_2 (Go.bits .andNot .i64 x7_1 (ji24))).f1)) ∧ w'.cell? (ad232.add (x32_2).toNat) = some (.int .i64 (rd l0 x32_2))) (ds := [8]) W21_ (by kernel_rfl) rfl rfl ⟨(blk_cell BK230.out 0).trans rfl, (blk_cell BK230.out 1).trans rfl, ((HB.out.cell (World.block_lt_of_cell? w _ hw232_0)).trans hw232_0)⟩ (fun hHeld => ?_); refine with_tabW impl_FewestStrips.tab15 impl_FewestStrips.bits15 (fun HT_ HW_ => ?_)
                           generalize wc.drew = w64 at HO_6 BK230 HB hx232_0 hHeld ⊢
                           refine pz_ (i := 0) (N := some 61) W22_ rfl rfl (any_of HT_.out (by kernel_rfl)) ?_
                           refine pz_ (i := 2) (N := some 63) W23_ rfl rfl (any_of HT_.out (by kernel_rfl)) ?_
                           refine pz_ (i := 3) (N := some 64) W24_ rfl rfl (any_of HT_.out (by kernel_rfl)) ?_
                           refine pz_ (i := 4) (N := some 65) W25_ rfl rfl (any_of HT_.out (by kernel_rfl)) ?_
                           refine take_ (i := 1) (N := some 62) (v := ?_) (a' := ?_) W26_ rfl rfl (take_ofW HT_.out HW_.out (by kernel_rfl)) (fun _ _ _ h => h) (Or.inl ⟨by rfl, ?_⟩) hHeld ?_ ?_
                           rotate_left
                           ·rintro w' ⟨s0, s1, s2⟩
                            go_simp
                            with_reducible rfl
                           rotate_left
                           ·simp only [Act.put, List.setIfInBounds_toArray, List.set_cons_zero, List.set_cons_succ, i64_w, i32_w]
                            rfl
                           refine take_ (i := 5) (N := some 66) (v := ?_) (a' := ?_) W27_ rfl rfl (take_ofW HT_.out HW_.out (by kernel_rfl)) (fun _ _ _ h => h) (Or.inl ⟨by rfl, ?_⟩) hHeld ?_ ?_
                           rotate_left
                           ·rintro w' ⟨s0, s1, s2⟩
                            go_simp
                            with_reducible rfl
                           rotate_left
                           ·simp only [Act.put, List.setIfInBounds_toArray, List.set_cons_zero, List.set_cons_succ, i64_w, i32_w]
                            rfl
                           refine pz_ (i := 6) (N := some 67) W28_ rfl rfl (any_of HT_.out (by kernel_rfl)) ?_
                           refine pz_ (i := 7) (N := some 68) W29_ rfl rfl (any_of HT_.out (by kernel_rfl)) ?_
                           refine last_ (i := 8) (N := none) W30_ rfl rfl (one_of HT_.out (by kernel_rfl)) (by decide) (fun K hK => ?_)
                           have hs65 : w64.cell? ⟨gb230, 1, none⟩ = some (.int .i64 ((rd_T46 x6_2 (Go.bits .andNot .i64 x7_1 (ji24))).f1)) := (blk_cell BK230.out 1).trans rfl
                           have hfs65 := blk_frozen BK230.out 1
                           refine skip_ (w1 := ?_) (by rfl) rfl ?_ ?_
                           rotate_left
                           ·go_simp
                            rfl
                           refine hK.out _ _ ?_
                           clear hK K
                           refine done_ (done_of HT_.out (by kernel_rfl)) ?_
                           try go_wp2
                           have n0_ : Aside0 (Kd.R k46 46 (w64.setCell ⟨gb230, 1, none⟩ (.int .i64 (wrap64 (((rd_T46 x6_2 (Go.bits .andNot .i64 x7_1 (ji24))).f1) + (rd l0 x32_2))))) w.heap.size (fun k_ => k_ ≠ gb230) (.slice (some ⟨go16, 0, none⟩) x6_2.length co16) x6_2) := ⟨by (with_reducible repeat (first | apply Kd.R_alloc | apply Kd.R_drewN | apply Kd.R_drew)); exact Kd.R_mono (Kd.R_far (p := ⟨gb230, 1, none⟩) (Kd.R_mono HO_6.out (fun k_ hk => (⟨hk, hk⟩ : _ ∧ k_ ≠ gb230))) (fun _ hk => hk.2) (.int .i64 (wrap64 (((rd_T46 x6_2 (Go.bits .andNot .i64 x7_1 (ji24))).f1) + (rd l0 x32_2))))) (fun _ hk => hk.1)⟩
                           have n1_ : Aside0 ((w64.setCell ⟨gb230, 1, none⟩ (.int .i64 (wrap64 (((rd_T46 x6_2 (Go.bits .andNot .i64 x7_1 (ji24))).f1) + (rd l0 x32_2))))).heap[gb230]? = some (.cells #[.int .i64 ((rd_T46 x6_2 (Go.bits .andNot .i64 x7_1 (ji24))).f0), .int .i64 (wrap64 (((rd_T46 x6_2 (Go.bits .andNot .i64 x7_1 (ji24))).f1) + (rd l0 x32_2)))] 46 (0, 0))) := ⟨by (with_reducible repeat (first | refine blk_drewN ?_ _ | refine blk_drew ?_ | refine blk_alloc ?_ _)); refine blk_put (cs := #[.int .i64 ((rd_T46 x6_2 (Go.bits .andNot .i64 x7_1 (ji24))).f0), .int .i64 ((rd_T46 x6_2 (Go.bits .andNot .i64 x7_1 (ji24))).f1)]) ?_ 1 _ rfl; (with_reducible repeat (first | refine blk_drewN ?_ _ | refine blk_drew ?_ | refine blk_alloc ?_ _)); exact BK230.out⟩
                           have n2_ : Aside0 (Below w.heap.size w (w64.setCell ⟨gb230, 1, none⟩ (.int .i64 (wrap64 (((rd_T46 x6_2 (Go.bits .andNot .i64 x7_1 (ji24))).f1) + (rd l0 x32_2)))))) := ⟨by repeat (first | (with_reducible first | exact HB.out | apply below_alloc | apply pw_below_drewN | apply below_drew1 | refine below_set ?_ GE230.out) | exact HB.out)⟩
                           (try clear HO_6)
                           (try clear BK230)
                           (try clear HB)
                           generalize (w64.setCell ⟨gb230, 1, none⟩ (.int .i64 (wrap64 (((rd_T46 x6_2 (Go.bits .andNot .i64 x7_1 (ji24))).f1) + (rd l0 x32_2))))) = w66 at n0_ n1_ n2_ ⊢
                           have HO_6 := n0_
                           have BK230 := n1_
                           have HB := n2_
                           clear n0_ n1_ n2_
                           have n0_ := Aside0.mk (Kd.R_drew HO_6.out)
                           have n1_ := Aside0.mk (blk_drew BK230.out)
                           have n2_ := Aside0.mk (below_drew1 HB.out)
                           clear HO_6
                           clear BK230
                           clear HB
                           have HO_6 := n0_
                           have BK230 := n1_
                           have HB := n2_
                           clear n0_ n1_ n2_
                           have p233 : 0 ≤ (x7_1 : Int) := of_decide_eq_true (by first | (with_reducible assumption) | assumption)
                           have q233 : x7_1 < (x6_2.length : Int) := of_decide_eq_true (by first | (with_reducible assumption) | assumption)
                           obtain ⟨ad233, e233, hx233_0, hx233_1⟩ := at_T46 (Kd.R_reads' HO_6.out).2.2 x7_1 p233 q233
                           obtain rfl : (⟨go16, 0, none⟩ : Addr) = ad233 := (by injection e233)
                           (first | simp only [add_plain] at hx233_0 | simp only [add_at] at hx233_0 | simp only [Addr.add, Nat.zero_add] at hx233_0 | skip)
                           (first | simp only [add_plain] at hx233_1 | simp only [add_at] at hx233_1 | simp only [Addr.add, Nat.zero_add] at hx233_1 | skip)
                           replace p233 := eq_true p233
                           replace q233 := eq_true q233
                           have p235 : 0 ≤ (x7_1 : Int) := of_decide_eq_true (by first | (with_reducible assumption) | assumption)
                           have q235 : x7_1 < (x6_2.length : Int) := of_decide_eq_true (by first | (with_reducible assumption) | assumption)
                           obtain ⟨ad235, e235, hx235_0, hx235_1⟩ := at_T46 (Kd.R_reads' HO_6.out).2.2 x7_1 p235 q235
                           obtain rfl : (⟨go16, 0, none⟩ : Addr) = ad235 := (by injection e235)
                           (first | simp only [add_plain] at hx235_0 | simp only [add_at] at hx235_0 | simp only [Addr.add, Nat.zero_add] at hx235_0 | skip)
                           (first | simp only [add_plain] at hx235_1 | simp only [add_at] at hx235_1 | simp only [Addr.add, Nat.zero_add] at hx235_1 | skip)
                           replace p235 := eq_true p235
                           replace q235 := eq_true q235
                           refine start_ (n := 28) (S := fun w' => w'.cell? ⟨gb230, 0, none⟩ = some (.int .i64 ((rd_T46 x6_2 (Go.bits .andNot .i64 x7_1 (ji24))).f0)) ∧ w'.cell? ⟨gb230, 1, none⟩ = some (.int .i64 (wrap64 (((rd_T46 x6_2 (Go.bits .andNot .i64 x7_1 (ji24))).f1) + (rd l0 x32_2)))) ∧ w'.cell? ⟨go16, (x7_1).toNat * 2, none⟩ = some (.int .i64 ((rd_T46 x6_2 x7_1).f0)) ∧ w'.cell? ⟨go16, (x7_1).toNat * 2 + 1, none⟩ = some (.int .i64 ((rd_T46 x6_2 x7_1).f1)) ∧ w'.cell? ⟨go16, (x7_1).toNat * 2, none⟩ = some (.int .i64 ((rd_T46 x6_2 x7_1).f0)) ∧ w'.cell? ⟨go16, (x7_1).toNat * 2 + 1, none⟩ = some (.int .i64 ((rd_T46 x6_2 x7_1).f1))) (ds := []) W31_ (by kernel_rfl) rfl rfl ⟨(blk_cell BK230.out 0).trans rfl, (blk_cell BK230.out 1).trans rfl, hx233_0, hx233_1, hx235_0, hx235_1⟩ (fun hHeld => ?_); refine with_tabW impl_FewestStrips.tab17 impl_FewestStrips.bits17 (fun HT_ HW_ => ?_)
                           generalize w66.drew = w67 at HO_6 BK230 HB hx233_0 hx233_1 hx235_0 hx235_1 hHeld ⊢
                           refine pz_ (i := 0) (N := some 77) W32_ rfl rfl (any_of HT_.out (by kernel_rfl)) ?_
                           refine pz_ (i := 2) (N := some 79) W33_ rfl rfl (any_of HT_.out (by kernel_rfl)) ?_
                           refine pz_ (i := 3) (N := some 80) W34_ rfl rfl (any_of HT_.out (by kernel_rfl)) ?_
                           refine pz_ (i := 4) (N := some 81) W35_ rfl rfl (any_of HT_.out (by kernel_rfl)) ?_
                           refine pz_ (i := 5) (N := some 82) W36_ rfl rfl (any_of HT_.out (by kernel_rfl)) ?_
                           refine take_ (i := 1) (N := some 78) (v := ?_) (a' := ?_) W37_ rfl rfl (take_ofW HT_.out HW_.out (by kernel_rfl)) (fun _ _ _ h => h) (Or.inl ⟨by rfl, ?_⟩) hHeld ?_ ?_
                           rotate_left
                           ·rintro w' ⟨s0, s1, s2, s3, s4, s5⟩
                            go_simp
                            with_reducible rfl
                           rotate_left
                           ·simp only [Act.put, List.setIfInBounds_toArray, List.set_cons_zero, List.set_cons_succ, i64_w, i32_w]
                            rfl
                           refine take_ (i := 6) (N := some 83) (v := ?_) (a' := ?_) W38_ rfl rfl (take_ofW HT_.out HW_.out (by kernel_rfl)) (fun _ _ _ h => h) (Or.inl ⟨by rfl, ?_⟩) hHeld ?_ ?_
                           rotate_left
                           ·rintro w' ⟨s0, s1, s2, s3, s4, s5⟩
                            go_simp
                            with_reducible rfl
                           rotate_left
                           ·simp only [Act.put, List.setIfInBounds_toArray, List.set_cons_zero, List.set_cons_succ, i64_w, i32_w]
                            rfl
                           refine pz_ (i := 7) (N := some 84) W39_ rfl rfl (any_of HT_.out (by kernel_rfl)) ?_
                           refine pz_ (i := 8) (N := some 85) W40_ rfl rfl (any_of HT_.out (by kernel_rfl)) ?_
                           refine pz_ (i := 9) (N := some 86) W41_ rfl rfl (any_of HT_.out (by kernel_rfl)) ?_
                           refine pz_ (i := 11) (N := some 88) W60_ rfl rfl (any_of HT_.out (by kernel_rfl)) ?_
                           refine pz_ (i := 12) (N := some 89) W61_ rfl rfl (any_of HT_.out (by kernel_rfl)) ?_
                           refine pz_ (i := 13) (N := some 90) W62_ rfl rfl (any_of HT_.out (by kernel_rfl)) ?_
                           refine pz_ (i := 14) (N := some 91) W63_ rfl rfl (any_of HT_.out (by kernel_rfl)) ?_
                           refine take_ (i := 10) (N := some 87) (v := ?_) (a' := ?_) W46_ rfl rfl (take_ofW HT_.out HW_.out (by kernel_rfl)) (fun _ _ _ h => h) (Or.inl ⟨by rfl, ?_⟩) hHeld ?_ ?_
                           rotate_left
                           ·rintro w' ⟨s0, s1, s2, s3, s4, s5⟩
                            go_simp
                            with_reducible rfl
                           rotate_left
                           ·simp only [Act.put, List.setIfInBounds_toArray, List.set_cons_zero, List.set_cons_succ, i64_w, i32_w]
                            rfl
                           refine take_ (i := 15) (N := some 92) (v := ?_) (a' := ?_) W47_ rfl rfl (take_ofW HT_.out HW_.out (by kernel_rfl)) (fun _ _ _ h => h) (Or.inl ⟨by rfl, ?_⟩) hHeld ?_ ?_
                           rotate_left
                           ·rintro w' ⟨s0, s1, s2, s3, s4, s5⟩
                            go_simp
                            with_reducible rfl
                           rotate_left
                           ·simp only [Act.put, List.setIfInBounds_toArray, List.set_cons_zero, List.set_cons_succ, i64_w, i32_w]
                            rfl
                           refine pz_ (i := 16) (N := some 93) W48_ rfl rfl (any_of HT_.out (by kernel_rfl)) ?_
                           refine pz_ (i := 17) (N := some 94) W49_ rfl rfl (any_of HT_.out (by kernel_rfl)) ?_
                           refine pu_ (i := 18) (N := some 95) W50_ rfl rfl (any_of HT_.out (by kernel_rfl)) ?_
                           refine pu_ (i := 19) (N := some 96) W51_ rfl rfl (any_of HT_.out (by kernel_rfl)) ?_
                           refine pu_ (i := 20) (N := some 97) W52_ rfl rfl (any_of HT_.out (by kernel_rfl)) ?_
                           refine pu_ (i := 21) (N := some 98) W53_ rfl rfl (any_of HT_.out (by kernel_rfl)) ?_
                           refine pu_ (i := 22) (N := some 99) W54_ rfl rfl (any_of HT_.out (by kernel_rfl)) ?_
                           refine pu_ (i := 23) (N := some 100) W55_ rfl rfl (any_of HT_.out (by kernel_rfl)) ?_
                           refine pu_ (i := 24) (N := some 101) W56_ rfl rfl (any_of HT_.out (by kernel_rfl)) ?_
                           refine pu_ (i := 25) (N := some 102) W57_ rfl rfl (any_of HT_.out (by kernel_rfl)) ?_
                           refine pz_ (i := 26) (N := some 103) W58_ rfl rfl (any_of HT_.out (by kernel_rfl)) ?_
                           refine pz_ (i := 27) (N := some 104) W59_ rfl rfl (any_of HT_.out (by kernel_rfl)) ?_
                           refine done_ (done_of HT_.out (by kernel_rfl)) ?_
                           try go_wp2
                           (try simp only [← hl6_2])
                           go_roundg kj26
                           case measure => have := HK1.out; have := HK2.out; have := HJ26.out; omega
                           case rel => exact ⟨(x6_2), (wrap64 (x32_2 + 1)), (by first | rfl | (simp; done) | (simp [*]; done)), H', ⟨by have := HK1.out; have := HK2.out; have := HJ26.out; omega⟩, ⟨by (try simp only [hl6_2]); (with_reducible repeat (first | apply Kd.R_alloc | apply Kd.R_drewN | apply Kd.R_drew)); exact Kd.R_mono HO_6.out (fun _ hk => trivial)⟩, ⟨by repeat (first | (with_reducible first | exact HB.out | apply below_alloc | apply pw_below_drewN | apply below_drew1 | refine below_set ?_ GE230.out) | exact HB.out)⟩⟩
                       ·rw [if_neg c40] at H
                        exact absurd H (by simp)
                      ·rw [if_neg c39] at H
                       exact absurd H (by simp)
                     ·rw [if_neg c38] at H
                      exact absurd H (by simp)
                    ·rw [if_neg c37] at H
                     exact absurd H (by simp)
                   ·replace c36 := Bool.eq_false_iff.mpr c36
                    subst c36
                    have H1 : (if 0 ≤ x32_2 then (if x32_2 < (l0.length : Int) then (if 0 ≤ x7_1 then (if x7_1 < (x6_2.length : Int) then (if (wrap64 (((rd_T46 x6_2 (Go.bits .andNot .i64 x7_1 (ji24))).f0) + 1)) < ((rd_T46 x6_2 x7_1).f0) then (impl_FewestStrips.l1 kj26 l0 a1 (l0.length : Int) (x6_2.set (x7_1 : Int).toNat (⟨wrap64 (((rd_T46 x6_2 (Go.bits .andNot .i64 x7_1 (ji24))).f0) + 1), rd l0 x32_2⟩ : S46)) x7_1 (l0.length : Int) (wrap64 (x32_2 + 1))) else (if (wrap64 (((rd_T46 x6_2 (Go.bits .andNot .i64 x7_1 (ji24))).f0) + 1)) = ((rd_T46 x6_2 x7_1).f0) then (if (rd l0 x32_2) < ((rd_T46 x6_2 x7_1).f1) then (impl_FewestStrips.l1 kj26 l0 a1 (l0.length : Int) (x6_2.set (x7_1 : Int).toNat (⟨wrap64 (((rd_T46 x6_2 (Go.bits .andNot .i64 x7_1 (ji24))).f0) + 1), rd l0 x32_2⟩ : S46)) x7_1 (l0.length : Int) (wrap64 (x32_2 + 1))) else (impl_FewestStrips.l1 kj26 l0 a1 (l0.length : Int) x6_2 x7_1 (l0.length : Int) (wrap64 (x32_2 + 1)))) else (impl_FewestStrips.l1 kj26 l0 a1 (l0.length : Int) x6_2 x7_1 (l0.length : Int) (wrap64 (x32_2 + 1))))) else (none)) else (none)) else (none)) else (none)) = some r := by rw [if_neg (show ¬ (false = true) by decide)] at H; exact H
                    clear H
                    have H := H1
                    clear H1
                    by_cases c68 : 0 ≤ x32_2
                    ·rw [if_pos c68] at H
                     have c68b0 : decide (0 ≤ x32_2) = true := decide_eq_true c68
                     clear c68
                     by_cases c69 : x32_2 < (l0.length : Int)
                     ·rw [if_pos c69] at H
                      have c69b0 : decide (x32_2 < (l0.length : Int)) = true := decide_eq_true c69
                      clear c69
                      by_cases c70 : 0 ≤ x7_1
                      ·rw [if_pos c70] at H
                       have c70b0 : decide (0 ≤ x7_1) = true := decide_eq_true c70
                       clear c70
                       by_cases c71 : x7_1 < (x6_2.length : Int)
                       ·rw [if_pos c71] at H
                        have c71b0 : decide (x7_1 < (x6_2.length : Int)) = true := decide_eq_true c71
                        clear c71
                        by_cases c72 : (wrap64 (((rd_T46 x6_2 (Go.bits .andNot .i64 x7_1 (ji24))).f0) + 1)) < ((rd_T46 x6_2 x7_1).f0)
                        ·as_aux_lemma =>
                          rw [if_pos c72] at H
                          have c72b0 : decide ((wrap64 (((rd_T46 x6_2 (Go.bits .andNot .i64 x7_1 (ji24))).f0) + 1)) < ((rd_T46 x6_2 x7_1).f0)) = true := decide_eq_true c72
                          clear c72
                          obtain ⟨y240, hy240⟩ : ∃ y_ : List (S46), y_ = (x6_2.set (x7_1 : Int).toNat (⟨wrap64 (((rd_T46 x6_2 (Go.bits .andNot .i64 x7_1 (ji24))).f0) + 1), rd l0 x32_2⟩ : S46)) := ⟨_, rfl⟩
                          replace H : (impl_FewestStrips.l1 kj26 l0 a1 (l0.length : Int) y240 x7_1 (l0.length : Int) (wrap64 (x32_2 + 1))) = some r := by first | (rw [hy240]; with_reducible exact H) | (have H2_ := (Option.bind_some _ _).symm.trans H; rw [hy240]; with_reducible exact H2_) | (have H2_ := (Option.bind_some _ _).symm.trans H; with_reducible exact H2_) | with_reducible exact H | (rw [hy240]; exact H) | exact H
                          have Ny240 := Aside0.mk hy240
                          clear hy240
                          have H' := Aside0.mk H
                          clear H
                          try go_wp2
                          have n0_ := Aside0.mk (Kd.R_drew HO_6.out)
                          have n1_ := Aside0.mk (blk_drew BK230.out)
                          have n2_ := Aside0.mk (below_drew1 HB.out)
                          clear HO_6
                          clear BK230
                          clear HB
                          have HO_6 := n0_
                          have BK230 := n1_
                          have HB := n2_
                          clear n0_ n1_ n2_
                          have p238 : 0 ≤ (x32_2 : Int) := of_decide_eq_true (by first | (with_reducible assumption) | assumption)
                          have q238 : x32_2 < (l0.length : Int) := of_decide_eq_true (by first | (with_reducible assumption) | assumption)
                          obtain ⟨ad238, e238, hx238_0⟩ := Kd.at_int HR0.out x32_2 p238 q238
                          have hw238_0 := hx238_0
                          cases e238
                          replace hx238_0 := (HB.out.cell (World.block_lt_of_cell? w _ hx238_0)).trans hx238_0
                          replace p238 := eq_true p238
                          replace q238 := eq_true q238
                          refine start_ (n := 9) (S := fun w' => w'.cell? ⟨gb230, 0, none⟩ = some (.int .i64 ((rd_T46 x6_2 (Go.bits .andNot .i64 x7_1 (ji24))).f0)) ∧ w'.cell? ⟨gb230, 1, none⟩ = some (.int .i64 ((rd_T46 x6_2 (Go.bits .andNot .i64 x7_1 (ji24))).f1)) ∧ w'.cell? (ad238.add (x32_2).toNat) = some (.int .i64 (rd l0 x32_2))) (ds := [8]) W21_ (by kernel_rfl) rfl rfl ⟨(blk_cell BK230.out 0).trans rfl, (blk_cell BK230.out 1).trans rfl, ((HB.out.cell (World.block_lt_of_cell? w _ hw238_0)).trans hw238_0)⟩ (fun hHeld => ?_); refine with_tabW impl_FewestStrips.tab16 impl_FewestStrips.bits16 (fun HT_ HW_ => ?_)
                          generalize wc.drew = w74 at HO_6 BK230 HB hx238_0 hHeld ⊢
                          refine pz_ (i := 0) (N := some 69) W22_ rfl rfl (any_of HT_.out (by kernel_rfl)) ?_
                          refine pz_ (i := 3) (N := some 72) W68_ rfl rfl (any_of HT_.out (by kernel_rfl)) ?_
                          refine pz_ (i := 4) (N := some 73) W69_ rfl rfl (any_of HT_.out (by kernel_rfl)) ?_
                          refine pz_ (i := 5) (N := some 74) W70_ rfl rfl (any_of HT_.out (by kernel_rfl)) ?_
                          refine take_ (i := 1) (N := some 70) (v := ?_) (a' := ?_) W71_ rfl rfl (take_ofW HT_.out HW_.out (by kernel_rfl)) (fun _ _ _ h => h) (Or.inl ⟨by rfl, ?_⟩) hHeld ?_ ?_
                          rotate_left
                          ·rintro w' ⟨s0, s1, s2⟩
                           go_simp
                           with_reducible rfl
                          rotate_left
                          ·simp only [Act.put, List.setIfInBounds_toArray, List.set_cons_zero, List.set_cons_succ, i64_w, i32_w]
                           rfl
                          refine pz_ (i := 2) (N := some 71) W27_ rfl rfl (any_of HT_.out (by kernel_rfl)) ?_
                          refine take_ (i := 6) (N := some 75) (v := ?_) (a' := ?_) W28_ rfl rfl (take_ofW HT_.out HW_.out (by kernel_rfl)) (fun _ _ _ h => h) (Or.inl ⟨by rfl, ?_⟩) hHeld ?_ ?_
                          rotate_left
                          ·rintro w' ⟨s0, s1, s2⟩
                           go_simp
                           with_reducible rfl
                          rotate_left
                          ·simp only [Act.put, List.setIfInBounds_toArray, List.set_cons_zero, List.set_cons_succ, i64_w, i32_w]
                           rfl
                          refine pz_ (i := 7) (N := some 76) W29_ rfl rfl (any_of HT_.out (by kernel_rfl)) ?_
                          refine last_ (i := 8) (N := none) W30_ rfl rfl (one_of HT_.out (by kernel_rfl)) (by decide) (fun K hK => ?_)
                          have hs75 : w74.cell? ⟨gb230, 0, none⟩ = some (.int .i64 ((rd_T46 x6_2 (Go.bits .andNot .i64 x7_1 (ji24))).f0)) := (blk_cell BK230.out 0).trans rfl
                          have hfs75 := blk_frozen BK230.out 0
                          have hs76 : w74.cell? ⟨gb230, 1, none⟩ = some (.int .i64 ((rd_T46 x6_2 (Go.bits .andNot .i64 x7_1 (ji24))).f1)) := (blk_cell BK230.out 1).trans rfl
                          have hfs76 := blk_frozen BK230.out 1
                          refine skip_ (w1 := ?_) (by rfl) rfl ?_ ?_
                          rotate_left
                          ·go_simp
                           rfl
                          refine hK.out _ _ ?_
                          clear hK K
                          refine done_ (done_of HT_.out (by kernel_rfl)) ?_
                          try go_wp2
                          have n0_ : Aside0 (Kd.R k46 46 ((w74.setCell ⟨gb230, 0, none⟩ (.int .i64 (wrap64 (((rd_T46 x6_2 (Go.bits .andNot .i64 x7_1 (ji24))).f0) + 1)))).setCell ⟨gb230, 1, none⟩ (.int .i64 (rd l0 x32_2))) w.heap.size (fun k_ => k_ ≠ gb230) (.slice (some ⟨go16, 0, none⟩) x6_2.length co16) x6_2) := ⟨by (with_reducible repeat (first | apply Kd.R_alloc | apply Kd.R_drewN | apply Kd.R_drew)); exact Kd.R_mono (Kd.R_far (p := ⟨gb230, 1, none⟩) (Kd.R_far (p := ⟨gb230, 0, none⟩) (Kd.R_mono HO_6.out (fun k_ hk => (⟨hk, hk⟩ : _ ∧ k_ ≠ gb230))) (fun _ hk => hk.2) (.int .i64 (wrap64 (((rd_T46 x6_2 (Go.bits .andNot .i64 x7_1 (ji24))).f0) + 1)))) (fun _ hk => hk.2) (.int .i64 (rd l0 x32_2))) (fun _ hk => hk.1)⟩
                          have n1_ : Aside0 (((w74.setCell ⟨gb230, 0, none⟩ (.int .i64 (wrap64 (((rd_T46 x6_2 (Go.bits .andNot .i64 x7_1 (ji24))).f0) + 1)))).setCell ⟨gb230, 1, none⟩ (.int .i64 (rd l0 x32_2))).heap[gb230]? = some (.cells #[.int .i64 (wrap64 (((rd_T46 x6_2 (Go.bits .andNot .i64 x7_1 (ji24))).f0) + 1)), .int .i64 (rd l0 x32_2)] 46 (0, 0))) := ⟨by (with_reducible repeat (first | refine blk_drewN ?_ _ | refine blk_drew ?_ | refine blk_alloc ?_ _)); refine blk_put (cs := #[.int .i64 (wrap64 (((rd_T46 x6_2 (Go.bits .andNot .i64 x7_1 (ji24))).f0) + 1)), .int .i64 ((rd_T46 x6_2 (Go.bits .andNot .i64 x7_1 (ji24))).f1)]) ?_ 1 _ rfl; (with_reducible repeat (first | refine blk_drewN ?_ _ | refine blk_drew ?_ | refine blk_alloc ?_ _)); refine blk_put (cs := #[.int .i64 ((rd_T46 x6_2 (Go.bits .andNot .i64 x7_1 (ji24))).f0), .int .i64 ((rd_T46 x6_2 (Go.bits .andNot .i64 x7_1 (ji24))).f1)]) ?_ 0 _ rfl; (with_reducible repeat (first | refine blk_drewN ?_ _ | refine blk_drew ?_ | refine blk_alloc ?_ _)); exact BK230.out⟩
                          have n2_ : Aside0 (Below w.heap.size w ((w74.setCell ⟨gb230, 0, none⟩ (.int .i64 (wrap64 (((rd_T46 x6_2 (Go.bits .andNot .i64 x7_1 (ji24))).f0) + 1)))).setCell ⟨gb230, 1, none⟩ (.int .i64 (rd l0 x32_2)))) := ⟨by repeat (first | (with_reducible first | exact HB.out | apply below_alloc | apply pw_below_drewN | apply below_drew1 | refine below_set ?_ GE230.out) | exact HB.out)⟩
                          (try clear HO_6)
                          (try clear BK230)
                          (try clear HB)
                          generalize ((w74.setCell ⟨gb230, 0, none⟩ (.int .i64 (wrap64 (((rd_T46 x6_2 (Go.bits .andNot .i64 x7_1 (ji24))).f0) + 1)))).setCell ⟨gb230, 1, none⟩ (.int .i64 (rd l0 x32_2))) = w77 at n0_ n1_ n2_ ⊢
                          have HO_6 := n0_
                          have BK230 := n1_
                          have HB := n2_
                          clear n0_ n1_ n2_
                          have n0_ := Aside0.mk (Kd.R_drew HO_6.out)
                          have n1_ := Aside0.mk (blk_drew BK230.out)
                          have n2_ := Aside0.mk (below_drew1 HB.out)
                          clear HO_6
                          clear BK230
                          clear HB
                          have HO_6 := n0_
                          have BK230 := n1_
                          have HB := n2_
                          clear n0_ n1_ n2_
                          have p239 : 0 ≤ (x7_1 : Int) := of_decide_eq_true (by first | (with_reducible assumption) | assumption)
                          have q239 : x7_1 < (x6_2.length : Int) := of_decide_eq_true (by first | (with_reducible assumption) | assumption)
                          obtain ⟨ad239, e239, hx239_0, hx239_1⟩ := at_T46 (Kd.R_reads' HO_6.out).2.2 x7_1 p239 q239
                          obtain rfl : (⟨go16, 0, none⟩ : Addr) = ad239 := (by injection e239)
                          (first | simp only [add_plain] at hx239_0 | simp only [add_at] at hx239_0 | simp only [Addr.add, Nat.zero_add] at hx239_0 | skip)
                          (first | simp only [add_plain] at hx239_1 | simp only [add_at] at hx239_1 | simp only [Addr.add, Nat.zero_add] at hx239_1 | skip)
                          replace p239 := eq_true p239
                          replace q239 := eq_true q239
                          refine start_ (n := 28) (S := fun w' => w'.cell? ⟨gb230, 0, none⟩ = some (.int .i64 (wrap64 (((rd_T46 x6_2 (Go.bits .andNot .i64 x7_1 (ji24))).f0) + 1))) ∧ w'.cell? ⟨gb230, 1, none⟩ = some (.int .i64 (rd l0 x32_2)) ∧ w'.cell? ⟨go16, (x7_1).toNat * 2, none⟩ = some (.int .i64 ((rd_T46 x6_2 x7_1).f0)) ∧ w'.cell? ⟨go16, (x7_1).toNat * 2 + 1, none⟩ = some (.int .i64 ((rd_T46 x6_2 x7_1).f1))) (ds := []) W31_ (by kernel_rfl) rfl rfl ⟨(blk_cell BK230.out 0).trans rfl, (blk_cell BK230.out 1).trans rfl, hx239_0, hx239_1⟩ (fun hHeld => ?_); refine with_tabW impl_FewestStrips.tab17 impl_FewestStrips.bits17 (fun HT_ HW_ => ?_)
                          generalize w77.drew = w78 at HO_6 BK230 HB hx239_0 hx239_1 hHeld ⊢
                          refine pz_ (i := 0) (N := some 77) W32_ rfl rfl (any_of HT_.out (by kernel_rfl)) ?_
                          refine pz_ (i := 2) (N := some 79) W33_ rfl rfl (any_of HT_.out (by kernel_rfl)) ?_
                          refine pz_ (i := 3) (N := some 80) W34_ rfl rfl (any_of HT_.out (by kernel_rfl)) ?_
                          refine pz_ (i := 4) (N := some 81) W35_ rfl rfl (any_of HT_.out (by kernel_rfl)) ?_
                          refine pz_ (i := 5) (N := some 82) W36_ rfl rfl (any_of HT_.out (by kernel_rfl)) ?_
                          refine take_ (i := 1) (N := some 78) (v := ?_) (a' := ?_) W37_ rfl rfl (take_ofW HT_.out HW_.out (by kernel_rfl)) (fun _ _ _ h => h) (Or.inl ⟨by rfl, ?_⟩) hHeld ?_ ?_
                          rotate_left
                          ·rintro w' ⟨s0, s1, s2, s3⟩
                           go_simp
                           with_reducible rfl
                          rotate_left
                          ·simp only [Act.put, List.setIfInBounds_toArray, List.set_cons_zero, List.set_cons_succ, i64_w, i32_w]
                           rfl
                          refine take_ (i := 6) (N := some 83) (v := ?_) (a' := ?_) W38_ rfl rfl (take_ofW HT_.out HW_.out (by kernel_rfl)) (fun _ _ _ h => h) (Or.inl ⟨by rfl, ?_⟩) hHeld ?_ ?_
                          rotate_left
                          ·rintro w' ⟨s0, s1, s2, s3⟩
                           go_simp
                           with_reducible rfl
                          rotate_left
                          ·simp only [Act.put, List.setIfInBounds_toArray, List.set_cons_zero, List.set_cons_succ, i64_w, i32_w]
                           rfl
                          refine pz_ (i := 7) (N := some 84) W39_ rfl rfl (any_of HT_.out (by kernel_rfl)) ?_
                          refine pz_ (i := 8) (N := some 85) W40_ rfl rfl (any_of HT_.out (by kernel_rfl)) ?_
                          refine pu_ (i := 9) (N := some 86) W41_ rfl rfl (any_of HT_.out (by kernel_rfl)) ?_
                          refine pu_ (i := 10) (N := some 87) W42_ rfl rfl (any_of HT_.out (by kernel_rfl)) ?_
                          refine pu_ (i := 11) (N := some 88) W43_ rfl rfl (any_of HT_.out (by kernel_rfl)) ?_
                          refine pu_ (i := 12) (N := some 89) W44_ rfl rfl (any_of HT_.out (by kernel_rfl)) ?_
                          refine pu_ (i := 13) (N := some 90) W45_ rfl rfl (any_of HT_.out (by kernel_rfl)) ?_
                          refine pu_ (i := 14) (N := some 91) W46_ rfl rfl (any_of HT_.out (by kernel_rfl)) ?_
                          refine pu_ (i := 15) (N := some 92) W47_ rfl rfl (any_of HT_.out (by kernel_rfl)) ?_
                          refine pu_ (i := 16) (N := some 93) W48_ rfl rfl (any_of HT_.out (by kernel_rfl)) ?_
                          refine pu_ (i := 17) (N := some 94) W49_ rfl rfl (any_of HT_.out (by kernel_rfl)) ?_
                          refine pu_ (i := 18) (N := some 95) W50_ rfl rfl (any_of HT_.out (by kernel_rfl)) ?_
                          refine pu_ (i := 19) (N := some 96) W51_ rfl rfl (any_of HT_.out (by kernel_rfl)) ?_
                          refine pu_ (i := 20) (N := some 97) W52_ rfl rfl (any_of HT_.out (by kernel_rfl)) ?_
                          refine pu_ (i := 21) (N := some 98) W53_ rfl rfl (any_of HT_.out (by kernel_rfl)) ?_
                          refine pu_ (i := 22) (N := some 99) W54_ rfl rfl (any_of HT_.out (by kernel_rfl)) ?_
                          refine pu_ (i := 23) (N := some 100) W55_ rfl rfl (any_of HT_.out (by kernel_rfl)) ?_
                          refine pu_ (i := 24) (N := some 101) W56_ rfl rfl (any_of HT_.out (by kernel_rfl)) ?_
                          refine pu_ (i := 25) (N := some 102) W57_ rfl rfl (any_of HT_.out (by kernel_rfl)) ?_
                          refine pu_ (i := 26) (N := some 103) W58_ rfl rfl (any_of HT_.out (by kernel_rfl)) ?_
                          refine pz_ (i := 27) (N := some 104) W59_ rfl rfl (any_of HT_.out (by kernel_rfl)) ?_
                          refine done_ (done_of HT_.out (by kernel_rfl)) ?_
                          have hcz79_0 : w78.cell? ⟨gb230, 0, none⟩ = some (.int .i64 (wrap64 (((rd_T46 x6_2 (Go.bits .andNot .i64 x7_1 (ji24))).f0) + 1))) := (blk_cell BK230.out 0).trans rfl
                          have hcz79_1 : w78.cell? ⟨gb230, 1, none⟩ = some (.int .i64 (rd l0 x32_2)) := (blk_cell BK230.out 1).trans rfl
                          have hfz79_0 := blk_frozen BK230.out 0
                          have hfz79_1 := blk_frozen BK230.out 1
                          have p73 : 0 ≤ (x7_1 : Int) := of_decide_eq_true (by first | (with_reducible assumption) | assumption)
                          have q73 : (x7_1 : Int) < ((x6_2.length : Int) : Int) := of_decide_eq_true (by first | (with_reducible assumption) | assumption)
                          obtain ⟨ce73, hcl73, hM73, hcc73, hfr73⟩ := Kd.R_elem HO_6.out z46 (x7_1 : Int) p73 q73
                          obtain rfl := k46_openM hM73
                          have hx73_0 : w78.cell? ⟨go16, (x7_1 : Int).toNat * 2, none⟩ = some (.int .i64 ((rd_T46 x6_2 x7_1).f0)) := hcc73 0 _ rfl
                          have hx73_1 : w78.cell? ⟨go16, (x7_1 : Int).toNat * 2 + 1, none⟩ = some (.int .i64 ((rd_T46 x6_2 x7_1).f1)) := hcc73 1 _ rfl
                          have hf73_0 : w78.frozen? ⟨go16, (x7_1 : Int).toNat * 2, none⟩ = false := hfr73 0
                          have hf73_1 : w78.frozen? ⟨go16, (x7_1 : Int).toNat * 2 + 1, none⟩ = false := hfr73 1
                          clear hcl73 hcc73 hfr73; (try clear hM73)
                          replace p73 := eq_true p73
                          replace q73 := eq_true q73
                          have HX80 := Aside0.mk (show Kd.R k46 46 w78 w.heap.size (fun k_ => k_ ≠ gb230) (.slice (some ⟨go16, 0, none⟩) x6_2.length co16) x6_2 from (by (with_reducible repeat (first | apply Kd.R_alloc | apply Kd.R_drewN | apply Kd.R_drew)); exact HO_6.out))
                          obtain ⟨ce80, hcl80, hM80, hcc80, hfr80⟩ := Kd.R_elem HX80.out z46 (x7_1 : Int) (of_decide_eq_true (by first | (with_reducible assumption) | assumption)) (by have h_ : (x7_1 : Int) < ((x6_2.length : Int) : Int) := of_decide_eq_true (by first | (with_reducible assumption) | assumption); first | exact h_ | (have e_ := (Kd.R_reads' HO_6.out).1; omega) | simpa using h_)
                          obtain rfl := k46_openM hM80
                          have HP80 := Kd.R_seg HX80.out (x7_1 : Int) (of_decide_eq_true (by first | (with_reducible assumption) | assumption)) (by have h_ : (x7_1 : Int) < ((x6_2.length : Int) : Int) := of_decide_eq_true (by first | (with_reducible assumption) | assumption); first | exact h_ | (have e_ := (Kd.R_reads' HO_6.out).1; omega) | simpa using h_) (seg := [.int .i64 (wrap64 (((rd_T46 x6_2 (Go.bits .andNot .i64 x7_1 (ji24))).f0) + 1)), .int .i64 (rd l0 x32_2)]) (j := 0) hcl80 hcc80 (show 2 ≤ 2 from by decide) (x' := (⟨wrap64 (((rd_T46 x6_2 (Go.bits .andNot .i64 x7_1 (ji24))).f0) + 1), rd l0 x32_2⟩ : S46)) (k46_mkM _ _ _ (⟨wrap64 (((rd_T46 x6_2 (Go.bits .andNot .i64 x7_1 (ji24))).f0) + 1), rd l0 x32_2⟩ : S46) ) (fun _ hk => hk)
                          have hx80_0 := hcc80 0 _ rfl
                          (try simp only [show (k46).sz = 2 from rfl, Nat.mul_one, Nat.add_zero] at hx80_0)
                          have hf80_0 := hfr80 0
                          (try simp only [show (k46).sz = 2 from rfl, Nat.mul_one, Nat.add_zero] at hf80_0)
                          have hx80_1 := hcc80 1 _ rfl
                          (try simp only [show (k46).sz = 2 from rfl, Nat.mul_one, Nat.add_zero] at hx80_1)
                          have hf80_1 := hfr80 1
                          (try simp only [show (k46).sz = 2 from rfl, Nat.mul_one, Nat.add_zero] at hf80_1)
                          clear hcl80 hcc80 hfr80; (try clear hM80)
                          try go_wp2_with (first | ((with_reducible refine gate_store (t := 46) (p := 108) rfl ?_); refine store_event (t := 46) (p := 108) (v := ?vo_w81) (w1 := ((w78.setCell ⟨go16, (x7_1 : Int).toNat * 2, none⟩ (.int .i64 (wrap64 (((rd_T46 x6_2 (Go.bits .andNot .i64 x7_1 (ji24))).f0) + 1)))).setCell ⟨go16, (x7_1 : Int).toNat * 2 + 1, none⟩ (.int .i64 (rd l0 x32_2)))) ?hg ?ho ?hn ?hr ?_; (case ho => rfl); (case hg => rfl); (case hn => rfl); (case hr => first | (go_simp; done) | (go_simp; rfl)); intro w81 hw; have hg : w78.grownBy w81 (some go16) := (by rw [hw]; exact HP80.2); have hp_ : Kd.R k46 46 w81 w.heap.size (fun k_ => k_ ≠ gb230) (.slice (some ⟨go16, 0, none⟩) x6_2.length co16) y240 := (by rw [hw, Ny240.out]; exact HP80.1); clear HP80; have n0_ := Aside0.mk (hp_); have n1_ := Aside0.mk (blk_grown (g := gb230) (o := .cells #[.int .i64 (wrap64 (((rd_T46 x6_2 (Go.bits .andNot .i64 x7_1 (ji24))).f0) + 1)), .int .i64 (rd l0 x32_2)] 46 (0, 0)) (by (with_reducible repeat (first | refine blk_drewN ?_ _ | refine blk_drew ?_ | refine blk_alloc ?_ _)); exact BK230.out) hg (Kd.R_away HO_6.out (fun _ hk => hk))); have n2_ := Aside0.mk ((by rw [hw]; exact below_set (below_set (HB.out) GB16.out) GB16.out : Below w.heap.size w w81)); clear HO_6; clear BK230; clear HB; have HO_6 := n0_; have BK230 := n1_; have HB := n2_; clear n0_ n1_ n2_; clear hg hw hp_))
                          (try simp only [← hl6_2])
                          go_roundg kj26
                          case measure => have := HK1.out; have := HK2.out; have := HJ26.out; omega
                          case rel => exact ⟨(y240), (wrap64 (x32_2 + 1)), (by first | rfl | (simp; done) | (simp [*]; done)), H', ⟨by have := HK1.out; have := HK2.out; have := HJ26.out; omega⟩, ⟨by (try simp only [hl6_2]); (with_reducible repeat (first | apply Kd.R_alloc | apply Kd.R_drewN | apply Kd.R_drew)); exact Kd.R_mono HO_6.out (fun _ hk => trivial)⟩, ⟨by repeat (first | (with_reducible first | exact HB.out | apply below_alloc | apply pw_below_drewN | apply below_drew1 | refine below_set ?_ GE230.out) | exact HB.out)⟩⟩
                        ·rw [if_neg c72] at H
                         have c72b0 : decide ((wrap64 (((rd_T46 x6_2 (Go.bits .andNot .i64 x7_1 (ji24))).f0) + 1)) < ((rd_T46 x6_2 x7_1).f0)) = false := decide_eq_false c72
                         clear c72
                         by_cases c82 : (wrap64 (((rd_T46 x6_2 (Go.bits .andNot .i64 x7_1 (ji24))).f0) + 1)) = ((rd_T46 x6_2 x7_1).f0)
                         ·as_aux_lemma =>
                           rw [if_pos c82] at H
                           have c82b0 : ((wrap64 (((rd_T46 x6_2 (Go.bits .andNot .i64 x7_1 (ji24))).f0) + 1)) == ((rd_T46 x6_2 x7_1).f0)) = true := beq_iff_eq.mpr c82
                           have c82b1 : ((wrap64 (((rd_T46 x6_2 (Go.bits .andNot .i64 x7_1 (ji24))).f0) + 1)) != ((rd_T46 x6_2 x7_1).f0)) = false := bne_eq_false_iff_eq.mpr c82
                           clear c82
                           by_cases c83 : (rd l0 x32_2) < ((rd_T46 x6_2 x7_1).f1)
                           ·rw [if_pos c83] at H
                            have c83b0 : decide ((rd l0 x32_2) < ((rd_T46 x6_2 x7_1).f1)) = true := decide_eq_true c83
                            clear c83
                            obtain ⟨y243, hy243⟩ : ∃ y_ : List (S46), y_ = (x6_2.set (x7_1 : Int).toNat (⟨wrap64 (((rd_T46 x6_2 (Go.bits .andNot .i64 x7_1 (ji24))).f0) + 1), rd l0 x32_2⟩ : S46)) := ⟨_, rfl⟩
                            replace H : (impl_FewestStrips.l1 kj26 l0 a1 (l0.length : Int) y243 x7_1 (l0.length : Int) (wrap64 (x32_2 + 1))) = some r := by first | (rw [hy243]; with_reducible exact H) | (have H2_ := (Option.bind_some _ _).symm.trans H; rw [hy243]; with_reducible exact H2_) | (have H2_ := (Option.bind_some _ _).symm.trans H; with_reducible exact H2_) | with_reducible exact H | (rw [hy243]; exact H) | exact H
                            have Ny243 := Aside0.mk hy243
                            clear hy243
                            have H' := Aside0.mk H
                            clear H
                            try go_wp2
                            have n0_ := Aside0.mk (Kd.R_drew HO_6.out)
                            have n1_ := Aside0.mk (blk_drew BK230.out)
                            have n2_ := Aside0.mk (below_drew1 HB.out)
                            clear HO_6
                            clear BK230
                            clear HB
                            have HO_6 := n0_
                            have BK230 := n1_
                            have HB := n2_
                            clear n0_ n1_ n2_
                            have p238 : 0 ≤ (x32_2 : Int) := of_decide_eq_true (by first | (with_reducible assumption) | assumption)
                            have q238 : x32_2 < (l0.length : Int) := of_decide_eq_true (by first | (with_reducible assumption) | assumption)
                            obtain ⟨ad238, e238, hx238_0⟩ := Kd.at_int HR0.out x32_2 p238 q238
                            have hw238_0 := hx238_0
                            cases e238
                            replace hx238_0 := (HB.out.cell (World.block_lt_of_cell? w _ hx238_0)).trans hx238_0
                            replace p238 := eq_true p238
                            replace q238 := eq_true q238
                            refine start_ (n := 9) (S := fun w' => w'.cell? ⟨gb230, 0, none⟩ = some (.int .i64 ((rd_T46 x6_2 (Go.bits .andNot .i64 x7_1 (ji24))).f0)) ∧ w'.cell? ⟨gb230, 1, none⟩ = some (.int .i64 ((rd_T46 x6_2 (Go.bits .andNot .i64 x7_1 (ji24))).f1)) ∧ w'.cell? (ad238.add (x32_2).toNat) = some (.int .i64 (rd l0 x32_2))) (ds := [8]) W21_ (by kernel_rfl) rfl rfl ⟨(blk_cell BK230.out 0).trans rfl, (blk_cell BK230.out 1).trans rfl, ((HB.out.cell (World.block_lt_of_cell? w _ hw238_0)).trans hw238_0)⟩ (fun hHeld => ?_); refine with_tabW impl_FewestStrips.tab16 impl_FewestStrips.bits16 (fun HT_ HW_ => ?_)
                            generalize wc.drew = w85 at HO_6 BK230 HB hx238_0 hHeld ⊢
                            refine pz_ (i := 0) (N := some 69) W22_ rfl rfl (any_of HT_.out (by kernel_rfl)) ?_
                            refine pz_ (i := 3) (N := some 72) W68_ rfl rfl (any_of HT_.out (by kernel_rfl)) ?_
                            refine pz_ (i := 4) (N := some 73) W69_ rfl rfl (any_of HT_.out (by kernel_rfl)) ?_
                            refine pz_ (i := 5) (N := some 74) W70_ rfl rfl (any_of HT_.out (by kernel_rfl)) ?_
                            refine take_ (i := 1) (N := some 70) (v := ?_) (a' := ?_) W71_ rfl rfl (take_ofW HT_.out HW_.out (by kernel_rfl)) (fun _ _ _ h => h) (Or.inl ⟨by rfl, ?_⟩) hHeld ?_ ?_
                            rotate_left
                            ·rintro w' ⟨s0, s1, s2⟩
                             go_simp
                             with_reducible rfl
                            rotate_left
                            ·simp only [Act.put, List.setIfInBounds_toArray, List.set_cons_zero, List.set_cons_succ, i64_w, i32_w]
                             rfl
                            refine pz_ (i := 2) (N := some 71) W27_ rfl rfl (any_of HT_.out (by kernel_rfl)) ?_
                            refine take_ (i := 6) (N := some 75) (v := ?_) (a' := ?_) W28_ rfl rfl (take_ofW HT_.out HW_.out (by kernel_rfl)) (fun _ _ _ h => h) (Or.inl ⟨by rfl, ?_⟩) hHeld ?_ ?_
                            rotate_left
                            ·rintro w' ⟨s0, s1, s2⟩
                             go_simp
                             with_reducible rfl
                            rotate_left
                            ·simp only [Act.put, List.setIfInBounds_toArray, List.set_cons_zero, List.set_cons_succ, i64_w, i32_w]
                             rfl
                            refine pz_ (i := 7) (N := some 76) W29_ rfl rfl (any_of HT_.out (by kernel_rfl)) ?_
                            refine last_ (i := 8) (N := none) W30_ rfl rfl (one_of HT_.out (by kernel_rfl)) (by decide) (fun K hK => ?_)
                            have hs86 : w85.cell? ⟨gb230, 0, none⟩ = some (.int .i64 ((rd_T46 x6_2 (Go.bits .andNot .i64 x7_1 (ji24))).f0)) := (blk_cell BK230.out 0).trans rfl
                            have hfs86 := blk_frozen BK230.out 0
                            have hs87 : w85.cell? ⟨gb230, 1, none⟩ = some (.int .i64 ((rd_T46 x6_2 (Go.bits .andNot .i64 x7_1 (ji24))).f1)) := (blk_cell BK230.out 1).trans rfl
                            have hfs87 := blk_frozen BK230.out 1
                            refine skip_ (w1 := ?_) (by rfl) rfl ?_ ?_
                            rotate_left
                            ·go_simp
                             rfl
                            refine hK.out _ _ ?_
                            clear hK K
                            refine done_ (done_of HT_.out (by kernel_rfl)) ?_
                            try go_wp2
                            have n0_ : Aside0 (Kd.R k46 46 ((w85.setCell ⟨gb230, 0, none⟩ (.int .i64 (wrap64 (((rd_T46 x6_2 (Go.bits .andNot .i64 x7_1 (ji24))).f0) + 1)))).setCell ⟨gb230, 1, none⟩ (.int .i64 (rd l0 x32_2))) w.heap.size (fun k_ => k_ ≠ gb230) (.slice (some ⟨go16, 0, none⟩) x6_2.length co16) x6_2) := ⟨by (with_reducible repeat (first | apply Kd.R_alloc | apply Kd.R_drewN | apply Kd.R_drew)); exact Kd.R_mono (Kd.R_far (p := ⟨gb230, 1, none⟩) (Kd.R_far (p := ⟨gb230, 0, none⟩) (Kd.R_mono HO_6.out (fun k_ hk => (⟨hk, hk⟩ : _ ∧ k_ ≠ gb230))) (fun _ hk => hk.2) (.int .i64 (wrap64 (((rd_T46 x6_2 (Go.bits .andNot .i64 x7_1 (ji24))).f0) + 1)))) (fun _ hk => hk.2) (.int .i64 (rd l0 x32_2))) (fun _ hk => hk.1)⟩
                            have n1_ : Aside0 (((w85.setCell ⟨gb230, 0, none⟩ (.int .i64 (wrap64 (((rd_T46 x6_2 (Go.bits .andNot .i64 x7_1 (ji24))).f0) + 1)))).setCell ⟨gb230, 1, none⟩ (.int .i64 (rd l0 x32_2))).heap[gb230]? = some (.cells #[.int .i64 (wrap64 (((rd_T46 x6_2 (Go.bits .andNot .i64 x7_1 (ji24))).f0) + 1)), .int .i64 (rd l0 x32_2)] 46 (0, 0))) := ⟨by (with_reducible repeat (first | refine blk_drewN ?_ _ | refine blk_drew ?_ | refine blk_alloc ?_ _)); refine blk_put (cs := #[.int .i64 (wrap64 (((rd_T46 x6_2 (Go.bits .andNot .i64 x7_1 (ji24))).f0) + 1)), .int .i64 ((rd_T46 x6_2 (Go.bits .andNot .i64 x7_1 (ji24))).f1)]) ?_ 1 _ rfl; (with_reducible repeat (first | refine blk_drewN ?_ _ | refine blk_drew ?_ | refine blk_alloc ?_ _)); refine blk_put (cs := #[.int .i64 ((rd_T46 x6_2 (Go.bits .andNot .i64 x7_1 (ji24))).f0), .int .i64 ((rd_T46 x6_2 (Go.bits .andNot .i64 x7_1 (ji24))).f1)]) ?_ 0 _ rfl; (with_reducible repeat (first | refine blk_drewN ?_ _ | refine blk_drew ?_ | refine blk_alloc ?_ _)); exact BK230.out⟩
                            have n2_ : Aside0 (Below w.heap.size w ((w85.setCell ⟨gb230, 0, none⟩ (.int .i64 (wrap64 (((rd_T46 x6_2 (Go.bits .andNot .i64 x7_1 (ji24))).f0) + 1)))).setCell ⟨gb230, 1, none⟩ (.int .i64 (rd l0 x32_2)))) := ⟨by repeat (first | (with_reducible first | exact HB.out | apply below_alloc | apply pw_below_drewN | apply below_drew1 | refine below_set ?_ GE230.out) | exact HB.out)⟩
                            (try clear HO_6)
                            (try clear BK230)
                            (try clear HB)
                            generalize ((w85.setCell ⟨gb230, 0, none⟩ (.int .i64 (wrap64 (((rd_T46 x6_2 (Go.bits .andNot .i64 x7_1 (ji24))).f0) + 1)))).setCell ⟨gb230, 1, none⟩ (.int .i64 (rd l0 x32_2))) = w88 at n0_ n1_ n2_ ⊢
                            have HO_6 := n0_
                            have BK230 := n1_
                            have HB := n2_
                            clear n0_ n1_ n2_
                            have n0_ := Aside0.mk (Kd.R_drew HO_6.out)
                            have n1_ := Aside0.mk (blk_drew BK230.out)
                            have n2_ := Aside0.mk (below_drew1 HB.out)
                            clear HO_6
                            clear BK230
                            clear HB
                            have HO_6 := n0_
                            have BK230 := n1_
                            have HB := n2_
                            clear n0_ n1_ n2_
                            have p239 : 0 ≤ (x7_1 : Int) := of_decide_eq_true (by first | (with_reducible assumption) | assumption)
                            have q239 : x7_1 < (x6_2.length : Int) := of_decide_eq_true (by first | (with_reducible assumption) | assumption)
                            obtain ⟨ad239, e239, hx239_0, hx239_1⟩ := at_T46 (Kd.R_reads' HO_6.out).2.2 x7_1 p239 q239
                            obtain rfl : (⟨go16, 0, none⟩ : Addr) = ad239 := (by injection e239)
                            (first | simp only [add_plain] at hx239_0 | simp only [add_at] at hx239_0 | simp only [Addr.add, Nat.zero_add] at hx239_0 | skip)
                            (first | simp only [add_plain] at hx239_1 | simp only [add_at] at hx239_1 | simp only [Addr.add, Nat.zero_add] at hx239_1 | skip)
                            replace p239 := eq_true p239
                            replace q239 := eq_true q239
                            have p241 : 0 ≤ (x7_1 : Int) := of_decide_eq_true (by first | (with_reducible assumption) | assumption)
                            have q241 : x7_1 < (x6_2.length : Int) := of_decide_eq_true (by first | (with_reducible assumption) | assumption)
                            obtain ⟨ad241, e241, hx241_0, hx241_1⟩ := at_T46 (Kd.R_reads' HO_6.out).2.2 x7_1 p241 q241
                            obtain rfl : (⟨go16, 0, none⟩ : Addr) = ad241 := (by injection e241)
                            (first | simp only [add_plain] at hx241_0 | simp only [add_at] at hx241_0 | simp only [Addr.add, Nat.zero_add] at hx241_0 | skip)
                            (first | simp only [add_plain] at hx241_1 | simp only [add_at] at hx241_1 | simp only [Addr.add, Nat.zero_add] at hx241_1 | skip)
                            replace p241 := eq_true p241
                            replace q241 := eq_true q241
                            have p242 : 0 ≤ (x7_1 : Int) := of_decide_eq_true (by first | (with_reducible assumption) | assumption)
                            have q242 : x7_1 < (x6_2.length : Int) := of_decide_eq_true (by first | (with_reducible assumption) | assumption)
                            obtain ⟨ad242, e242, hx242_0, hx242_1⟩ := at_T46 (Kd.R_reads' HO_6.out).2.2 x7_1 p242 q242
                            obtain rfl : (⟨go16, 0, none⟩ : Addr) = ad242 := (by injection e242)
                            (first | simp only [add_plain] at hx242_0 | simp only [add_at] at hx242_0 | simp only [Addr.add, Nat.zero_add] at hx242_0 | skip)
                            (first | simp only [add_plain] at hx242_1 | simp only [add_at] at hx242_1 | simp only [Addr.add, Nat.zero_add] at hx242_1 | skip)
                            replace p242 := eq_true p242
                            replace q242 := eq_true q242
                            refine start_ (n := 28) (S := fun w' => w'.cell? ⟨gb230, 0, none⟩ = some (.int .i64 (wrap64 (((rd_T46 x6_2 (Go.bits .andNot .i64 x7_1 (ji24))).f0) + 1))) ∧ w'.cell? ⟨gb230, 1, none⟩ = some (.int .i64 (rd l0 x32_2)) ∧ w'.cell? ⟨go16, (x7_1).toNat * 2, none⟩ = some (.int .i64 ((rd_T46 x6_2 x7_1).f0)) ∧ w'.cell? ⟨go16, (x7_1).toNat * 2 + 1, none⟩ = some (.int .i64 ((rd_T46 x6_2 x7_1).f1)) ∧ w'.cell? ⟨go16, (x7_1).toNat * 2, none⟩ = some (.int .i64 ((rd_T46 x6_2 x7_1).f0)) ∧ w'.cell? ⟨go16, (x7_1).toNat * 2 + 1, none⟩ = some (.int .i64 ((rd_T46 x6_2 x7_1).f1)) ∧ w'.cell? ⟨go16, (x7_1).toNat * 2, none⟩ = some (.int .i64 ((rd_T46 x6_2 x7_1).f0)) ∧ w'.cell? ⟨go16, (x7_1).toNat * 2 + 1, none⟩ = some (.int .i64 ((rd_T46 x6_2 x7_1).f1))) (ds := []) W31_ (by kernel_rfl) rfl rfl ⟨(blk_cell BK230.out 0).trans rfl, (blk_cell BK230.out 1).trans rfl, hx239_0, hx239_1, hx241_0, hx241_1, hx242_0, hx242_1⟩ (fun hHeld => ?_); refine with_tabW impl_FewestStrips.tab17 impl_FewestStrips.bits17 (fun HT_ HW_ => ?_)
                            generalize w88.drew = w89 at HO_6 BK230 HB hx239_0 hx239_1 hx241_0 hx241_1 hx242_0 hx242_1 hHeld ⊢
                            refine pz_ (i := 0) (N := some 77) W32_ rfl rfl (any_of HT_.out (by kernel_rfl)) ?_
                            refine pz_ (i := 2) (N := some 79) W33_ rfl rfl (any_of HT_.out (by kernel_rfl)) ?_
                            refine pz_ (i := 3) (N := some 80) W34_ rfl rfl (any_of HT_.out (by kernel_rfl)) ?_
                            refine pz_ (i := 4) (N := some 81) W35_ rfl rfl (any_of HT_.out (by kernel_rfl)) ?_
                            refine pz_ (i := 5) (N := some 82) W36_ rfl rfl (any_of HT_.out (by kernel_rfl)) ?_
                            refine take_ (i := 1) (N := some 78) (v := ?_) (a' := ?_) W37_ rfl rfl (take_ofW HT_.out HW_.out (by kernel_rfl)) (fun _ _ _ h => h) (Or.inl ⟨by rfl, ?_⟩) hHeld ?_ ?_
                            rotate_left
                            ·rintro w' ⟨s0, s1, s2, s3, s4, s5, s6, s7⟩
                             go_simp
                             with_reducible rfl
                            rotate_left
                            ·simp only [Act.put, List.setIfInBounds_toArray, List.set_cons_zero, List.set_cons_succ, i64_w, i32_w]
                             rfl
                            refine take_ (i := 6) (N := some 83) (v := ?_) (a' := ?_) W38_ rfl rfl (take_ofW HT_.out HW_.out (by kernel_rfl)) (fun _ _ _ h => h) (Or.inl ⟨by rfl, ?_⟩) hHeld ?_ ?_
                            rotate_left
                            ·rintro w' ⟨s0, s1, s2, s3, s4, s5, s6, s7⟩
                             go_simp
                             with_reducible rfl
                            rotate_left
                            ·simp only [Act.put, List.setIfInBounds_toArray, List.set_cons_zero, List.set_cons_succ, i64_w, i32_w]
                             rfl
                            refine pz_ (i := 7) (N := some 84) W39_ rfl rfl (any_of HT_.out (by kernel_rfl)) ?_
                            refine pz_ (i := 8) (N := some 85) W40_ rfl rfl (any_of HT_.out (by kernel_rfl)) ?_
                            refine pz_ (i := 9) (N := some 86) W41_ rfl rfl (any_of HT_.out (by kernel_rfl)) ?_
                            refine pz_ (i := 11) (N := some 88) W60_ rfl rfl (any_of HT_.out (by kernel_rfl)) ?_
                            refine pz_ (i := 12) (N := some 89) W61_ rfl rfl (any_of HT_.out (by kernel_rfl)) ?_
                            refine pz_ (i := 13) (N := some 90) W62_ rfl rfl (any_of HT_.out (by kernel_rfl)) ?_
                            refine pz_ (i := 14) (N := some 91) W63_ rfl rfl (any_of HT_.out (by kernel_rfl)) ?_
                            refine take_ (i := 10) (N := some 87) (v := ?_) (a' := ?_) W46_ rfl rfl (take_ofW HT_.out HW_.out (by kernel_rfl)) (fun _ _ _ h => h) (Or.inl ⟨by rfl, ?_⟩) hHeld ?_ ?_
                            rotate_left
                            ·rintro w' ⟨s0, s1, s2, s3, s4, s5, s6, s7⟩
                             go_simp
                             with_reducible rfl
                            rotate_left
                            ·simp only [Act.put, List.setIfInBounds_toArray, List.set_cons_zero, List.set_cons_succ, i64_w, i32_w]
                             rfl
                            refine take_ (i := 15) (N := some 92) (v := ?_) (a' := ?_) W47_ rfl rfl (take_ofW HT_.out HW_.out (by kernel_rfl)) (fun _ _ _ h => h) (Or.inl ⟨by rfl, ?_⟩) hHeld ?_ ?_
                            rotate_left
                            ·rintro w' ⟨s0, s1, s2, s3, s4, s5, s6, s7⟩
                             go_simp
                             with_reducible rfl
                            rotate_left
                            ·simp only [Act.put, List.setIfInBounds_toArray, List.set_cons_zero, List.set_cons_succ, i64_w, i32_w]
                             rfl
                            refine pz_ (i := 16) (N := some 93) W48_ rfl rfl (any_of HT_.out (by kernel_rfl)) ?_
                            refine pz_ (i := 17) (N := some 94) W49_ rfl rfl (any_of HT_.out (by kernel_rfl)) ?_
                            refine pz_ (i := 18) (N := some 95) W50_ rfl rfl (any_of HT_.out (by kernel_rfl)) ?_
                            refine pz_ (i := 20) (N := some 97) W64_ rfl rfl (any_of HT_.out (by kernel_rfl)) ?_
                            refine pz_ (i := 21) (N := some 98) W65_ rfl rfl (any_of HT_.out (by kernel_rfl)) ?_
                            refine pz_ (i := 22) (N := some 99) W66_ rfl rfl (any_of HT_.out (by kernel_rfl)) ?_
                            refine pz_ (i := 23) (N := some 100) W67_ rfl rfl (any_of HT_.out (by kernel_rfl)) ?_
                            refine take_ (i := 19) (N := some 96) (v := ?_) (a' := ?_) W55_ rfl rfl (take_ofW HT_.out HW_.out (by kernel_rfl)) (fun _ _ _ h => h) (Or.inl ⟨by rfl, ?_⟩) hHeld ?_ ?_
                            rotate_left
                            ·rintro w' ⟨s0, s1, s2, s3, s4, s5, s6, s7⟩
                             go_simp
                             with_reducible rfl
                            rotate_left
                            ·simp only [Act.put, List.setIfInBounds_toArray, List.set_cons_zero, List.set_cons_succ, i64_w, i32_w]
                             rfl
                            refine take_ (i := 24) (N := some 101) (v := ?_) (a' := ?_) W56_ rfl rfl (take_ofW HT_.out HW_.out (by kernel_rfl)) (fun _ _ _ h => h) (Or.inl ⟨by rfl, ?_⟩) hHeld ?_ ?_
                            rotate_left
                            ·rintro w' ⟨s0, s1, s2, s3, s4, s5, s6, s7⟩
                             go_simp
                             with_reducible rfl
                            rotate_left
                            ·simp only [Act.put, List.setIfInBounds_toArray, List.set_cons_zero, List.set_cons_succ, i64_w, i32_w]
                             rfl
                            refine pz_ (i := 25) (N := some 102) W57_ rfl rfl (any_of HT_.out (by kernel_rfl)) ?_
                            refine pz_ (i := 26) (N := some 103) W58_ rfl rfl (any_of HT_.out (by kernel_rfl)) ?_
                            refine pz_ (i := 27) (N := some 104) W59_ rfl rfl (any_of HT_.out (by kernel_rfl)) ?_
                            refine done_ (done_of HT_.out (by kernel_rfl)) ?_
                            have hcz90_0 : w89.cell? ⟨gb230, 0, none⟩ = some (.int .i64 (wrap64 (((rd_T46 x6_2 (Go.bits .andNot .i64 x7_1 (ji24))).f0) + 1))) := (blk_cell BK230.out 0).trans rfl
                            have hcz90_1 : w89.cell? ⟨gb230, 1, none⟩ = some (.int .i64 (rd l0 x32_2)) := (blk_cell BK230.out 1).trans rfl
                            have hfz90_0 := blk_frozen BK230.out 0
                            have hfz90_1 := blk_frozen BK230.out 1
                            have p84 : 0 ≤ (x7_1 : Int) := of_decide_eq_true (by first | (with_reducible assumption) | assumption)
                            have q84 : (x7_1 : Int) < ((x6_2.length : Int) : Int) := of_decide_eq_true (by first | (with_reducible assumption) | assumption)
                            obtain ⟨ce84, hcl84, hM84, hcc84, hfr84⟩ := Kd.R_elem HO_6.out z46 (x7_1 : Int) p84 q84
                            obtain rfl := k46_openM hM84
                            have hx84_0 : w89.cell? ⟨go16, (x7_1 : Int).toNat * 2, none⟩ = some (.int .i64 ((rd_T46 x6_2 x7_1).f0)) := hcc84 0 _ rfl
                            have hx84_1 : w89.cell? ⟨go16, (x7_1 : Int).toNat * 2 + 1, none⟩ = some (.int .i64 ((rd_T46 x6_2 x7_1).f1)) := hcc84 1 _ rfl
                            have hf84_0 : w89.frozen? ⟨go16, (x7_1 : Int).toNat * 2, none⟩ = false := hfr84 0
                            have hf84_1 : w89.frozen? ⟨go16, (x7_1 : Int).toNat * 2 + 1, none⟩ = false := hfr84 1
                            clear hcl84 hcc84 hfr84; (try clear hM84)
                            replace p84 := eq_true p84
                            replace q84 := eq_true q84
                            have HX91 := Aside0.mk (show Kd.R k46 46 w89 w.heap.size (fun k_ => k_ ≠ gb230) (.slice (some ⟨go16, 0, none⟩) x6_2.length co16) x6_2 from (by (with_reducible repeat (first | apply Kd.R_alloc | apply Kd.R_drewN | apply Kd.R_drew)); exact HO_6.out))
                            obtain ⟨ce91, hcl91, hM91, hcc91, hfr91⟩ := Kd.R_elem HX91.out z46 (x7_1 : Int) (of_decide_eq_true (by first | (with_reducible assumption) | assumption)) (by have h_ : (x7_1 : Int) < ((x6_2.length : Int) : Int) := of_decide_eq_true (by first | (with_reducible assumption) | assumption); first | exact h_ | (have e_ := (Kd.R_reads' HO_6.out).1; omega) | simpa using h_)
                            obtain rfl := k46_openM hM91
                            have HP91 := Kd.R_seg HX91.out (x7_1 : Int) (of_decide_eq_true (by first | (with_reducible assumption) | assumption)) (by have h_ : (x7_1 : Int) < ((x6_2.length : Int) : Int) := of_decide_eq_true (by first | (with_reducible assumption) | assumption); first | exact h_ | (have e_ := (Kd.R_reads' HO_6.out).1; omega) | simpa using h_) (seg := [.int .i64 (wrap64 (((rd_T46 x6_2 (Go.bits .andNot .i64 x7_1 (ji24))).f0) + 1)), .int .i64 (rd l0 x32_2)]) (j := 0) hcl91 hcc91 (show 2 ≤ 2 from by decide) (x' := (⟨wrap64 (((rd_T46 x6_2 (Go.bits .andNot .i64 x7_1 (ji24))).f0) + 1), rd l0 x32_2⟩ : S46)) (k46_mkM _ _ _ (⟨wrap64 (((rd_T46 x6_2 (Go.bits .andNot .i64 x7_1 (ji24))).f0) + 1), rd l0 x32_2⟩ : S46) ) (fun _ hk => hk)
                            have hx91_0 := hcc91 0 _ rfl
                            (try simp only [show (k46).sz = 2 from rfl, Nat.mul_one, Nat.add_zero] at hx91_0)
                            have hf91_0 := hfr91 0
                            (try simp only [show (k46).sz = 2 from rfl, Nat.mul_one, Nat.add_zero] at hf91_0)
                            have hx91_1 := hcc91 1 _ rfl
                            (try simp only [show (k46).sz = 2 from rfl, Nat.mul_one, Nat.add_zero] at hx91_1)
                            have hf91_1 := hfr91 1
                            (try simp only [show (k46).sz = 2 from rfl, Nat.mul_one, Nat.add_zero] at hf91_1)
                            clear hcl91 hcc91 hfr91; (try clear hM91)
                            try go_wp2_with (first | ((with_reducible refine gate_store (t := 46) (p := 108) rfl ?_); refine store_event (t := 46) (p := 108) (v := ?vo_w92) (w1 := ((w89.setCell ⟨go16, (x7_1 : Int).toNat * 2, none⟩ (.int .i64 (wrap64 (((rd_T46 x6_2 (Go.bits .andNot .i64 x7_1 (ji24))).f0) + 1)))).setCell ⟨go16, (x7_1 : Int).toNat * 2 + 1, none⟩ (.int .i64 (rd l0 x32_2)))) ?hg ?ho ?hn ?hr ?_; (case ho => rfl); (case hg => rfl); (case hn => rfl); (case hr => first | (go_simp; done) | (go_simp; rfl)); intro w92 hw; have hg : w89.grownBy w92 (some go16) := (by rw [hw]; exact HP91.2); have hp_ : Kd.R k46 46 w92 w.heap.size (fun k_ => k_ ≠ gb230) (.slice (some ⟨go16, 0, none⟩) x6_2.length co16) y243 := (by rw [hw, Ny243.out]; exact HP91.1); clear HP91; have n0_ := Aside0.mk (hp_); have n1_ := Aside0.mk (blk_grown (g := gb230) (o := .cells #[.int .i64 (wrap64 (((rd_T46 x6_2 (Go.bits .andNot .i64 x7_1 (ji24))).f0) + 1)), .int .i64 (rd l0 x32_2)] 46 (0, 0)) (by (with_reducible repeat (first | refine blk_drewN ?_ _ | refine blk_drew ?_ | refine blk_alloc ?_ _)); exact BK230.out) hg (Kd.R_away HO_6.out (fun _ hk => hk))); have n2_ := Aside0.mk ((by rw [hw]; exact below_set (below_set (HB.out) GB16.out) GB16.out : Below w.heap.size w w92)); clear HO_6; clear BK230; clear HB; have HO_6 := n0_; have BK230 := n1_; have HB := n2_; clear n0_ n1_ n2_; clear hg hw hp_))
                            (try simp only [← hl6_2])
                            go_roundg kj26
                            case measure => have := HK1.out; have := HK2.out; have := HJ26.out; omega
                            case rel => exact ⟨(y243), (wrap64 (x32_2 + 1)), (by first | rfl | (simp; done) | (simp [*]; done)), H', ⟨by have := HK1.out; have := HK2.out; have := HJ26.out; omega⟩, ⟨by (try simp only [hl6_2]); (with_reducible repeat (first | apply Kd.R_alloc | apply Kd.R_drewN | apply Kd.R_drew)); exact Kd.R_mono HO_6.out (fun _ hk => trivial)⟩, ⟨by repeat (first | (with_reducible first | exact HB.out | apply below_alloc | apply pw_below_drewN | apply below_drew1 | refine below_set ?_ GE230.out) | exact HB.out)⟩⟩
                           ·rw [if_neg c83] at H
                            have c83b0 : decide ((rd l0 x32_2) < ((rd_T46 x6_2 x7_1).f1)) = false := decide_eq_false c83
                            clear c83
                            have H' := Aside0.mk H
                            clear H
                            try go_wp2
                            have n0_ := Aside0.mk (Kd.R_drew HO_6.out)
                            have n1_ := Aside0.mk (blk_drew BK230.out)
                            have n2_ := Aside0.mk (below_drew1 HB.out)
                            clear HO_6
                            clear BK230
                            clear HB
                            have HO_6 := n0_
                            have BK230 := n1_
                            have HB := n2_
                            clear n0_ n1_ n2_
                            have p238 : 0 ≤ (x32_2 : Int) := of_decide_eq_true (by first | (with_reducible assumption) | assumption)
                            have q238 : x32_2 < (l0.length : Int) := of_decide_eq_true (by first | (with_reducible assumption) | assumption)
                            obtain ⟨ad238, e238, hx238_0⟩ := Kd.at_int HR0.out x32_2 p238 q238
                            have hw238_0 := hx238_0
                            cases e238
                            replace hx238_0 := (HB.out.cell (World.block_lt_of_cell? w _ hx238_0)).trans hx238_0
                            replace p238 := eq_true p238
                            replace q238 := eq_true q238
                            refine start_ (n := 9) (S := fun w' => w'.cell? ⟨gb230, 0, none⟩ = some (.int .i64 ((rd_T46 x6_2 (Go.bits .andNot .i64 x7_1 (ji24))).f0)) ∧ w'.cell? ⟨gb230, 1, none⟩ = some (.int .i64 ((rd_T46 x6_2 (Go.bits .andNot .i64 x7_1 (ji24))).f1)) ∧ w'.cell? (ad238.add (x32_2).toNat) = some (.int .i64 (rd l0 x32_2))) (ds := [8]) W21_ (by kernel_rfl) rfl rfl ⟨(blk_cell BK230.out 0).trans rfl, (blk_cell BK230.out 1).trans rfl, ((HB.out.cell (World.block_lt_of_cell? w _ hw238_0)).trans hw238_0)⟩ (fun hHeld => ?_); refine with_tabW impl_FewestStrips.tab16 impl_FewestStrips.bits16 (fun HT_ HW_ => ?_)
                            generalize wc.drew = w93 at HO_6 BK230 HB hx238_0 hHeld ⊢
                            refine pz_ (i := 0) (N := some 69) W22_ rfl rfl (any_of HT_.out (by kernel_rfl)) ?_
                            refine pz_ (i := 3) (N := some 72) W68_ rfl rfl (any_of HT_.out (by kernel_rfl)) ?_
                            refine pz_ (i := 4) (N := some 73) W69_ rfl rfl (any_of HT_.out (by kernel_rfl)) ?_
                            refine pz_ (i := 5) (N := some 74) W70_ rfl rfl (any_of HT_.out (by kernel_rfl)) ?_
                            refine take_ (i := 1) (N := some 70) (v := ?_) (a' := ?_) W71_ rfl rfl (take_ofW HT_.out HW_.out (by kernel_rfl)) (fun _ _ _ h => h) (Or.inl ⟨by rfl, ?_⟩) hHeld ?_ ?_
                            rotate_left
                            ·rintro w' ⟨s0, s1, s2⟩
                             go_simp
                             with_reducible rfl
                            rotate_left
                            ·simp only [Act.put, List.setIfInBounds_toArray, List.set_cons_zero, List.set_cons_succ, i64_w, i32_w]
                             rfl
                            refine pz_ (i := 2) (N := some 71) W27_ rfl rfl (any_of HT_.out (by kernel_rfl)) ?_
                            refine take_ (i := 6) (N := some 75) (v := ?_) (a' := ?_) W28_ rfl rfl (take_ofW HT_.out HW_.out (by kernel_rfl)) (fun _ _ _ h => h) (Or.inl ⟨by rfl, ?_⟩) hHeld ?_ ?_
                            rotate_left
                            ·rintro w' ⟨s0, s1, s2⟩
                             go_simp
                             with_reducible rfl
                            rotate_left
                            ·simp only [Act.put, List.setIfInBounds_toArray, List.set_cons_zero, List.set_cons_succ, i64_w, i32_w]
                             rfl
                            refine pz_ (i := 7) (N := some 76) W29_ rfl rfl (any_of HT_.out (by kernel_rfl)) ?_
                            refine last_ (i := 8) (N := none) W30_ rfl rfl (one_of HT_.out (by kernel_rfl)) (by decide) (fun K hK => ?_)
                            have hs94 : w93.cell? ⟨gb230, 0, none⟩ = some (.int .i64 ((rd_T46 x6_2 (Go.bits .andNot .i64 x7_1 (ji24))).f0)) := (blk_cell BK230.out 0).trans rfl
                            have hfs94 := blk_frozen BK230.out 0
                            have hs95 : w93.cell? ⟨gb230, 1, none⟩ = some (.int .i64 ((rd_T46 x6_2 (Go.bits .andNot .i64 x7_1 (ji24))).f1)) := (blk_cell BK230.out 1).trans rfl
                            have hfs95 := blk_frozen BK230.out 1
                            refine skip_ (w1 := ?_) (by rfl) rfl ?_ ?_
                            rotate_left
                            ·go_simp
                             rfl
                            refine hK.out _ _ ?_
                            clear hK K
                            refine done_ (done_of HT_.out (by kernel_rfl)) ?_
                            try go_wp2
                            have n0_ : Aside0 (Kd.R k46 46 ((w93.setCell ⟨gb230, 0, none⟩ (.int .i64 (wrap64 (((rd_T46 x6_2 (Go.bits .andNot .i64 x7_1 (ji24))).f0) + 1)))).setCell ⟨gb230, 1, none⟩ (.int .i64 (rd l0 x32_2))) w.heap.size (fun k_ => k_ ≠ gb230) (.slice (some ⟨go16, 0, none⟩) x6_2.length co16) x6_2) := ⟨by (with_reducible repeat (first | apply Kd.R_alloc | apply Kd.R_drewN | apply Kd.R_drew)); exact Kd.R_mono (Kd.R_far (p := ⟨gb230, 1, none⟩) (Kd.R_far (p := ⟨gb230, 0, none⟩) (Kd.R_mono HO_6.out (fun k_ hk => (⟨hk, hk⟩ : _ ∧ k_ ≠ gb230))) (fun _ hk => hk.2) (.int .i64 (wrap64 (((rd_T46 x6_2 (Go.bits .andNot .i64 x7_1 (ji24))).f0) + 1)))) (fun _ hk => hk.2) (.int .i64 (rd l0 x32_2))) (fun _ hk => hk.1)⟩
                            have n1_ : Aside0 (((w93.setCell ⟨gb230, 0, none⟩ (.int .i64 (wrap64 (((rd_T46 x6_2 (Go.bits .andNot .i64 x7_1 (ji24))).f0) + 1)))).setCell ⟨gb230, 1, none⟩ (.int .i64 (rd l0 x32_2))).heap[gb230]? = some (.cells #[.int .i64 (wrap64 (((rd_T46 x6_2 (Go.bits .andNot .i64 x7_1 (ji24))).f0) + 1)), .int .i64 (rd l0 x32_2)] 46 (0, 0))) := ⟨by (with_reducible repeat (first | refine blk_drewN ?_ _ | refine blk_drew ?_ | refine blk_alloc ?_ _)); refine blk_put (cs := #[.int .i64 (wrap64 (((rd_T46 x6_2 (Go.bits .andNot .i64 x7_1 (ji24))).f0) + 1)), .int .i64 ((rd_T46 x6_2 (Go.bits .andNot .i64 x7_1 (ji24))).f1)]) ?_ 1 _ rfl; (with_reducible repeat (first | refine blk_drewN ?_ _ | refine blk_drew ?_ | refine blk_alloc ?_ _)); refine blk_put (cs := #[.int .i64 ((rd_T46 x6_2 (Go.bits .andNot .i64 x7_1 (ji24))).f0), .int .i64 ((rd_T46 x6_2 (Go.bits .andNot .i64 x7_1 (ji24))).f1)]) ?_ 0 _ rfl; (with_reducible repeat (first | refine blk_drewN ?_ _ | refine blk_drew ?_ | refine blk_alloc ?_ _)); exact BK230.out⟩
                            have n2_ : Aside0 (Below w.heap.size w ((w93.setCell ⟨gb230, 0, none⟩ (.int .i64 (wrap64 (((rd_T46 x6_2 (Go.bits .andNot .i64 x7_1 (ji24))).f0) + 1)))).setCell ⟨gb230, 1, none⟩ (.int .i64 (rd l0 x32_2)))) := ⟨by repeat (first | (with_reducible first | exact HB.out | apply below_alloc | apply pw_below_drewN | apply below_drew1 | refine below_set ?_ GE230.out) | exact HB.out)⟩
                            (try clear HO_6)
                            (try clear BK230)
                            (try clear HB)
                            generalize ((w93.setCell ⟨gb230, 0, none⟩ (.int .i64 (wrap64 (((rd_T46 x6_2 (Go.bits .andNot .i64 x7_1 (ji24))).f0) + 1)))).setCell ⟨gb230, 1, none⟩ (.int .i64 (rd l0 x32_2))) = w96 at n0_ n1_ n2_ ⊢
                            have HO_6 := n0_
                            have BK230 := n1_
                            have HB := n2_
                            clear n0_ n1_ n2_
                            have n0_ := Aside0.mk (Kd.R_drew HO_6.out)
                            have n1_ := Aside0.mk (blk_drew BK230.out)
                            have n2_ := Aside0.mk (below_drew1 HB.out)
                            clear HO_6
                            clear BK230
                            clear HB
                            have HO_6 := n0_
                            have BK230 := n1_
                            have HB := n2_
                            clear n0_ n1_ n2_
                            have p239 : 0 ≤ (x7_1 : Int) := of_decide_eq_true (by first | (with_reducible assumption) | assumption)
                            have q239 : x7_1 < (x6_2.length : Int) := of_decide_eq_true (by first | (with_reducible assumption) | assumption)
                            obtain ⟨ad239, e239, hx239_0, hx239_1⟩ := at_T46 (Kd.R_reads' HO_6.out).2.2 x7_1 p239 q239
                            obtain rfl : (⟨go16, 0, none⟩ : Addr) = ad239 := (by injection e239)
                            (first | simp only [add_plain] at hx239_0 | simp only [add_at] at hx239_0 | simp only [Addr.add, Nat.zero_add] at hx239_0 | skip)
                            (first | simp only [add_plain] at hx239_1 | simp only [add_at] at hx239_1 | simp only [Addr.add, Nat.zero_add] at hx239_1 | skip)
                            replace p239 := eq_true p239
                            replace q239 := eq_true q239
                            have p241 : 0 ≤ (x7_1 : Int) := of_decide_eq_true (by first | (with_reducible assumption) | assumption)
                            have q241 : x7_1 < (x6_2.length : Int) := of_decide_eq_true (by first | (with_reducible assumption) | assumption)
                            obtain ⟨ad241, e241, hx241_0, hx241_1⟩ := at_T46 (Kd.R_reads' HO_6.out).2.2 x7_1 p241 q241
                            obtain rfl : (⟨go16, 0, none⟩ : Addr) = ad241 := (by injection e241)
                            (first | simp only [add_plain] at hx241_0 | simp only [add_at] at hx241_0 | simp only [Addr.add, Nat.zero_add] at hx241_0 | skip)
                            (first | simp only [add_plain] at hx241_1 | simp only [add_at] at hx241_1 | simp only [Addr.add, Nat.zero_add] at hx241_1 | skip)
                            replace p241 := eq_true p241
                            replace q241 := eq_true q241
                            have p242 : 0 ≤ (x7_1 : Int) := of_decide_eq_true (by first | (with_reducible assumption) | assumption)
                            have q242 : x7_1 < (x6_2.length : Int) := of_decide_eq_true (by first | (with_reducible assumption) | assumption)
                            obtain ⟨ad242, e242, hx242_0, hx242_1⟩ := at_T46 (Kd.R_reads' HO_6.out).2.2 x7_1 p242 q242
                            obtain rfl : (⟨go16, 0, none⟩ : Addr) = ad242 := (by injection e242)
                            (first | simp only [add_plain] at hx242_0 | simp only [add_at] at hx242_0 | simp only [Addr.add, Nat.zero_add] at hx242_0 | skip)
                            (first | simp only [add_plain] at hx242_1 | simp only [add_at] at hx242_1 | simp only [Addr.add, Nat.zero_add] at hx242_1 | skip)
                            replace p242 := eq_true p242
                            replace q242 := eq_true q242
                            refine start_ (n := 28) (S := fun w' => w'.cell? ⟨gb230, 0, none⟩ = some (.int .i64 (wrap64 (((rd_T46 x6_2 (Go.bits .andNot .i64 x7_1 (ji24))).f0) + 1))) ∧ w'.cell? ⟨gb230, 1, none⟩ = some (.int .i64 (rd l0 x32_2)) ∧ w'.cell? ⟨go16, (x7_1).toNat * 2, none⟩ = some (.int .i64 ((rd_T46 x6_2 x7_1).f0)) ∧ w'.cell? ⟨go16, (x7_1).toNat * 2 + 1, none⟩ = some (.int .i64 ((rd_T46 x6_2 x7_1).f1)) ∧ w'.cell? ⟨go16, (x7_1).toNat * 2, none⟩ = some (.int .i64 ((rd_T46 x6_2 x7_1).f0)) ∧ w'.cell? ⟨go16, (x7_1).toNat * 2 + 1, none⟩ = some (.int .i64 ((rd_T46 x6_2 x7_1).f1)) ∧ w'.cell? ⟨go16, (x7_1).toNat * 2, none⟩ = some (.int .i64 ((rd_T46 x6_2 x7_1).f0)) ∧ w'.cell? ⟨go16, (x7_1).toNat * 2 + 1, none⟩ = some (.int .i64 ((rd_T46 x6_2 x7_1).f1))) (ds := []) W31_ (by kernel_rfl) rfl rfl ⟨(blk_cell BK230.out 0).trans rfl, (blk_cell BK230.out 1).trans rfl, hx239_0, hx239_1, hx241_0, hx241_1, hx242_0, hx242_1⟩ (fun hHeld => ?_); refine with_tabW impl_FewestStrips.tab17 impl_FewestStrips.bits17 (fun HT_ HW_ => ?_)
                            generalize w96.drew = w97 at HO_6 BK230 HB hx239_0 hx239_1 hx241_0 hx241_1 hx242_0 hx242_1 hHeld ⊢
                            refine pz_ (i := 0) (N := some 77) W32_ rfl rfl (any_of HT_.out (by kernel_rfl)) ?_
                            refine pz_ (i := 2) (N := some 79) W33_ rfl rfl (any_of HT_.out (by kernel_rfl)) ?_
                            refine pz_ (i := 3) (N := some 80) W34_ rfl rfl (any_of HT_.out (by kernel_rfl)) ?_
                            refine pz_ (i := 4) (N := some 81) W35_ rfl rfl (any_of HT_.out (by kernel_rfl)) ?_
                            refine pz_ (i := 5) (N := some 82) W36_ rfl rfl (any_of HT_.out (by kernel_rfl)) ?_
                            refine take_ (i := 1) (N := some 78) (v := ?_) (a' := ?_) W37_ rfl rfl (take_ofW HT_.out HW_.out (by kernel_rfl)) (fun _ _ _ h => h) (Or.inl ⟨by rfl, ?_⟩) hHeld ?_ ?_
                            rotate_left
                            ·rintro w' ⟨s0, s1, s2, s3, s4, s5, s6, s7⟩
                             go_simp
                             with_reducible rfl
                            rotate_left
                            ·simp only [Act.put, List.setIfInBounds_toArray, List.set_cons_zero, List.set_cons_succ, i64_w, i32_w]
                             rfl
                            refine take_ (i := 6) (N := some 83) (v := ?_) (a' := ?_) W38_ rfl rfl (take_ofW HT_.out HW_.out (by kernel_rfl)) (fun _ _ _ h => h) (Or.inl ⟨by rfl, ?_⟩) hHeld ?_ ?_
                            rotate_left
                            ·rintro w' ⟨s0, s1, s2, s3, s4, s5, s6, s7⟩
                             go_simp
                             with_reducible rfl
                            rotate_left
                            ·simp only [Act.put, List.setIfInBounds_toArray, List.set_cons_zero, List.set_cons_succ, i64_w, i32_w]
                             rfl
                            refine pz_ (i := 7) (N := some 84) W39_ rfl rfl (any_of HT_.out (by kernel_rfl)) ?_
                            refine pz_ (i := 8) (N := some 85) W40_ rfl rfl (any_of HT_.out (by kernel_rfl)) ?_
                            refine pz_ (i := 9) (N := some 86) W41_ rfl rfl (any_of HT_.out (by kernel_rfl)) ?_
                            refine pz_ (i := 11) (N := some 88) W60_ rfl rfl (any_of HT_.out (by kernel_rfl)) ?_
                            refine pz_ (i := 12) (N := some 89) W61_ rfl rfl (any_of HT_.out (by kernel_rfl)) ?_
                            refine pz_ (i := 13) (N := some 90) W62_ rfl rfl (any_of HT_.out (by kernel_rfl)) ?_
                            refine pz_ (i := 14) (N := some 91) W63_ rfl rfl (any_of HT_.out (by kernel_rfl)) ?_
                            refine take_ (i := 10) (N := some 87) (v := ?_) (a' := ?_) W46_ rfl rfl (take_ofW HT_.out HW_.out (by kernel_rfl)) (fun _ _ _ h => h) (Or.inl ⟨by rfl, ?_⟩) hHeld ?_ ?_
                            rotate_left
                            ·rintro w' ⟨s0, s1, s2, s3, s4, s5, s6, s7⟩
                             go_simp
                             with_reducible rfl
                            rotate_left
                            ·simp only [Act.put, List.setIfInBounds_toArray, List.set_cons_zero, List.set_cons_succ, i64_w, i32_w]
                             rfl
                            refine take_ (i := 15) (N := some 92) (v := ?_) (a' := ?_) W47_ rfl rfl (take_ofW HT_.out HW_.out (by kernel_rfl)) (fun _ _ _ h => h) (Or.inl ⟨by rfl, ?_⟩) hHeld ?_ ?_
                            rotate_left
                            ·rintro w' ⟨s0, s1, s2, s3, s4, s5, s6, s7⟩
                             go_simp
                             with_reducible rfl
                            rotate_left
                            ·simp only [Act.put, List.setIfInBounds_toArray, List.set_cons_zero, List.set_cons_succ, i64_w, i32_w]
                             rfl
                            refine pz_ (i := 16) (N := some 93) W48_ rfl rfl (any_of HT_.out (by kernel_rfl)) ?_
                            refine pz_ (i := 17) (N := some 94) W49_ rfl rfl (any_of HT_.out (by kernel_rfl)) ?_
                            refine pz_ (i := 18) (N := some 95) W50_ rfl rfl (any_of HT_.out (by kernel_rfl)) ?_
                            refine pz_ (i := 20) (N := some 97) W64_ rfl rfl (any_of HT_.out (by kernel_rfl)) ?_
                            refine pz_ (i := 21) (N := some 98) W65_ rfl rfl (any_of HT_.out (by kernel_rfl)) ?_
                            refine pz_ (i := 22) (N := some 99) W66_ rfl rfl (any_of HT_.out (by kernel_rfl)) ?_
                            refine pz_ (i := 23) (N := some 100) W67_ rfl rfl (any_of HT_.out (by kernel_rfl)) ?_
                            refine take_ (i := 19) (N := some 96) (v := ?_) (a' := ?_) W55_ rfl rfl (take_ofW HT_.out HW_.out (by kernel_rfl)) (fun _ _ _ h => h) (Or.inl ⟨by rfl, ?_⟩) hHeld ?_ ?_
                            rotate_left
                            ·rintro w' ⟨s0, s1, s2, s3, s4, s5, s6, s7⟩
                             go_simp
                             with_reducible rfl
                            rotate_left
                            ·simp only [Act.put, List.setIfInBounds_toArray, List.set_cons_zero, List.set_cons_succ, i64_w, i32_w]
                             rfl
                            refine take_ (i := 24) (N := some 101) (v := ?_) (a' := ?_) W56_ rfl rfl (take_ofW HT_.out HW_.out (by kernel_rfl)) (fun _ _ _ h => h) (Or.inl ⟨by rfl, ?_⟩) hHeld ?_ ?_
                            rotate_left
                            ·rintro w' ⟨s0, s1, s2, s3, s4, s5, s6, s7⟩
                             go_simp
                             with_reducible rfl
                            rotate_left
                            ·simp only [Act.put, List.setIfInBounds_toArray, List.set_cons_zero, List.set_cons_succ, i64_w, i32_w]
                             rfl
                            refine pz_ (i := 25) (N := some 102) W57_ rfl rfl (any_of HT_.out (by kernel_rfl)) ?_
                            refine pz_ (i := 26) (N := some 103) W58_ rfl rfl (any_of HT_.out (by kernel_rfl)) ?_
                            refine pz_ (i := 27) (N := some 104) W59_ rfl rfl (any_of HT_.out (by kernel_rfl)) ?_
                            refine done_ (done_of HT_.out (by kernel_rfl)) ?_
                            try go_wp2
                            (try simp only [← hl6_2])
                            go_roundg kj26
                            case measure => have := HK1.out; have := HK2.out; have := HJ26.out; omega
                            case rel => exact ⟨(x6_2), (wrap64 (x32_2 + 1)), (by first | rfl | (simp; done) | (simp [*]; done)), H', ⟨by have := HK1.out; have := HK2.out; have := HJ26.out; omega⟩, ⟨by (try simp only [hl6_2]); (with_reducible repeat (first | apply Kd.R_alloc | apply Kd.R_drewN | apply Kd.R_drew)); exact Kd.R_mono HO_6.out (fun _ hk => trivial)⟩, ⟨by repeat (first | (with_reducible first | exact HB.out | apply below_alloc | apply pw_below_drewN | apply below_drew1 | refine below_set ?_ GE230.out) | exact HB.out)⟩⟩
                         ·as_aux_lemma =>
                           rw [if_neg c82] at H
                           have c82b0 : ((wrap64 (((rd_T46 x6_2 (Go.bits .andNot .i64 x7_1 (ji24))).f0) + 1)) == ((rd_T46 x6_2 x7_1).f0)) = false := beq_eq_false_iff_ne.mpr c82
                           have c82b1 : ((wrap64 (((rd_T46 x6_2 (Go.bits .andNot .i64 x7_1 (ji24))).f0) + 1)) != ((rd_T46 x6_2 x7_1).f0)) = true := bne_iff_ne.mpr c82
                           have H' := Aside0.mk H
                           clear H
                           try go_wp2
                           have n0_ := Aside0.mk (Kd.R_drew HO_6.out)
                           have n1_ := Aside0.mk (blk_drew BK230.out)
                           have n2_ := Aside0.mk (below_drew1 HB.out)
                           clear HO_6
                           clear BK230
                           clear HB
                           have HO_6 := n0_
                           have BK230 := n1_
                           have HB := n2_
                           clear n0_ n1_ n2_
                           have p238 : 0 ≤ (x32_2 : Int) := of_decide_eq_true (by first | (with_reducible assumption) | assumption)
                           have q238 : x32_2 < (l0.length : Int) := of_decide_eq_true (by first | (with_reducible assumption) | assumption)
                           obtain ⟨ad238, e238, hx238_0⟩ := Kd.at_int HR0.out x32_2 p238 q238
                           have hw238_0 := hx238_0
                           cases e238
                           replace hx238_0 := (HB.out.cell (World.block_lt_of_cell? w _ hx238_0)).trans hx238_0
                           replace p238 := eq_true p238
                           replace q238 := eq_true q238
                           refine start_ (n := 9) (S := fun w' => w'.cell? ⟨gb230, 0, none⟩ = some (.int .i64 ((rd_T46 x6_2 (Go.bits .andNot .i64 x7_1 (ji24))).f0)) ∧ w'.cell? ⟨gb230, 1, none⟩ = some (.int .i64 ((rd_T46 x6_2 (Go.bits .andNot .i64 x7_1 (ji24))).f1)) ∧ w'.cell? (ad238.add (x32_2).toNat) = some (.int .i64 (rd l0 x32_2))) (ds := [8]) W21_ (by kernel_rfl) rfl rfl ⟨(blk_cell BK230.out 0).trans rfl, (blk_cell BK230.out 1).trans rfl, ((HB.out.cell (World.block_lt_of_cell? w _ hw238_0)).trans hw238_0)⟩ (fun hHeld => ?_); refine with_tabW impl_FewestStrips.tab16 impl_FewestStrips.bits16 (fun HT_ HW_ => ?_)
                           generalize wc.drew = w98 at HO_6 BK230 HB hx238_0 hHeld ⊢
                           refine pz_ (i := 0) (N := some 69) W22_ rfl rfl (any_of HT_.out (by kernel_rfl)) ?_
                           refine pz_ (i := 3) (N := some 72) W68_ rfl rfl (any_of HT_.out (by kernel_rfl)) ?_
                           refine pz_ (i := 4) (N := some 73) W69_ rfl rfl (any_of HT_.out (by kernel_rfl)) ?_
                           refine pz_ (i := 5) (N := some 74) W70_ rfl rfl (any_of HT_.out (by kernel_rfl)) ?_
                           refine take_ (i := 1) (N := some 70) (v := ?_) (a' := ?_) W71_ rfl rfl (take_ofW HT_.out HW_.out (by kernel_rfl)) (fun _ _ _ h => h) (Or.inl ⟨by rfl, ?_⟩) hHeld ?_ ?_
                           rotate_left
                           ·rintro w' ⟨s0, s1, s2⟩
                            go_simp
                            with_reducible rfl
                           rotate_left
                           ·simp only [Act.put, List.setIfInBounds_toArray, List.set_cons_zero, List.set_cons_succ, i64_w, i32_w]
                            rfl
                           refine pz_ (i := 2) (N := some 71) W27_ rfl rfl (any_of HT_.out (by kernel_rfl)) ?_
                           refine take_ (i := 6) (N := some 75) (v := ?_) (a' := ?_) W28_ rfl rfl (take_ofW HT_.out HW_.out (by kernel_rfl)) (fun _ _ _ h => h) (Or.inl ⟨by rfl, ?_⟩) hHeld ?_ ?_
                           rotate_left
                           ·rintro w' ⟨s0, s1, s2⟩
                            go_simp
                            with_reducible rfl
                           rotate_left
                           ·simp only [Act.put, List.setIfInBounds_toArray, List.set_cons_zero, List.set_cons_succ, i64_w, i32_w]
                            rfl
                           refine pz_ (i := 7) (N := some 76) W29_ rfl rfl (any_of HT_.out (by kernel_rfl)) ?_
                           refine last_ (i := 8) (N := none) W30_ rfl rfl (one_of HT_.out (by kernel_rfl)) (by decide) (fun K hK => ?_)
                           have hs99 : w98.cell? ⟨gb230, 0, none⟩ = some (.int .i64 ((rd_T46 x6_2 (Go.bits .andNot .i64 x7_1 (ji24))).f0)) := (blk_cell BK230.out 0).trans rfl
                           have hfs99 := blk_frozen BK230.out 0
                           have hs100 : w98.cell? ⟨gb230, 1, none⟩ = some (.int .i64 ((rd_T46 x6_2 (Go.bits .andNot .i64 x7_1 (ji24))).f1)) := (blk_cell BK230.out 1).trans rfl
                           have hfs100 := blk_frozen BK230.out 1
                           refine skip_ (w1 := ?_) (by rfl) rfl ?_ ?_
                           rotate_left
                           ·go_simp
                            rfl
                           refine hK.out _ _ ?_
                           clear hK K
                           refine done_ (done_of HT_.out (by kernel_rfl)) ?_
                           try go_wp2
                           have n0_ : Aside0 (Kd.R k46 46 ((w98.setCell ⟨gb230, 0, none⟩ (.int .i64 (wrap64 (((rd_T46 x6_2 (Go.bits .andNot .i64 x7_1 (ji24))).f0) + 1)))).setCell ⟨gb230, 1, none⟩ (.int .i64 (rd l0 x32_2))) w.heap.size (fun k_ => k_ ≠ gb230) (.slice (some ⟨go16, 0, none⟩) x6_2.length co16) x6_2) := ⟨by (with_reducible repeat (first | apply Kd.R_alloc | apply Kd.R_drewN | apply Kd.R_drew)); exact Kd.R_mono (Kd.R_far (p := ⟨gb230, 1, none⟩) (Kd.R_far (p := ⟨gb230, 0, none⟩) (Kd.R_mono HO_6.out (fun k_ hk => (⟨hk, hk⟩ : _ ∧ k_ ≠ gb230))) (fun _ hk => hk.2) (.int .i64 (wrap64 (((rd_T46 x6_2 (Go.bits .andNot .i64 x7_1 (ji24))).f0) + 1)))) (fun _ hk => hk.2) (.int .i64 (rd l0 x32_2))) (fun _ hk => hk.1)⟩
                           have n1_ : Aside0 (((w98.setCell ⟨gb230, 0, none⟩ (.int .i64 (wrap64 (((rd_T46 x6_2 (Go.bits .andNot .i64 x7_1 (ji24))).f0) + 1)))).setCell ⟨gb230, 1, none⟩ (.int .i64 (rd l0 x32_2))).heap[gb230]? = some (.cells #[.int .i64 (wrap64 (((rd_T46 x6_2 (Go.bits .andNot .i64 x7_1 (ji24))).f0) + 1)), .int .i64 (rd l0 x32_2)] 46 (0, 0))) := ⟨by (with_reducible repeat (first | refine blk_drewN ?_ _ | refine blk_drew ?_ | refine blk_alloc ?_ _)); refine blk_put (cs := #[.int .i64 (wrap64 (((rd_T46 x6_2 (Go.bits .andNot .i64 x7_1 (ji24))).f0) + 1)), .int .i64 ((rd_T46 x6_2 (Go.bits .andNot .i64 x7_1 (ji24))).f1)]) ?_ 1 _ rfl; (with_reducible repeat (first | refine blk_drewN ?_ _ | refine blk_drew ?_ | refine blk_alloc ?_ _)); refine blk_put (cs := #[.int .i64 ((rd_T46 x6_2 (Go.bits .andNot .i64 x7_1 (ji24))).f0), .int .i64 ((rd_T46 x6_2 (Go.bits .andNot .i64 x7_1 (ji24))).f1)]) ?_ 0 _ rfl; (with_reducible repeat (first | refine blk_drewN ?_ _ | refine blk_drew ?_ | refine blk_alloc ?_ _)); exact BK230.out⟩
                           have n2_ : Aside0 (Below w.heap.size w ((w98.setCell ⟨gb230, 0, none⟩ (.int .i64 (wrap64 (((rd_T46 x6_2 (Go.bits .andNot .i64 x7_1 (ji24))).f0) + 1)))).setCell ⟨gb230, 1, none⟩ (.int .i64 (rd l0 x32_2)))) := ⟨by repeat (first | (with_reducible first | exact HB.out | apply below_alloc | apply pw_below_drewN | apply below_drew1 | refine below_set ?_ GE230.out) | exact HB.out)⟩
                           (try clear HO_6)
                           (try clear BK230)
                           (try clear HB)
                           generalize ((w98.setCell ⟨gb230, 0, none⟩ (.int .i64 (wrap64 (((rd_T46 x6_2 (Go.bits .andNot .i64 x7_1 (ji24))).f0) + 1)))).setCell ⟨gb230, 1, none⟩ (.int .i64 (rd l0 x32_2))) = w101 at n0_ n1_ n2_ ⊢
                           have HO_6 := n0_
                           have BK230 := n1_
                           have HB := n2_
                           clear n0_ n1_ n2_
                           have n0_ := Aside0.mk (Kd.R_drew HO_6.out)
                           have n1_ := Aside0.mk (blk_drew BK230.out)
                           have n2_ := Aside0.mk (below_drew1 HB.out)
                           clear HO_6
                           clear BK230
                           clear HB
                           have HO_6 := n0_
                           have BK230 := n1_
                           have HB := n2_
                           clear n0_ n1_ n2_
                           have p239 : 0 ≤ (x7_1 : Int) := of_decide_eq_true (by first | (with_reducible assumption) | assumption)
                           have q239 : x7_1 < (x6_2.length : Int) := of_decide_eq_true (by first | (with_reducible assumption) | assumption)
                           obtain ⟨ad239, e239, hx239_0, hx239_1⟩ := at_T46 (Kd.R_reads' HO_6.out).2.2 x7_1 p239 q239
                           obtain rfl : (⟨go16, 0, none⟩ : Addr) = ad239 := (by injection e239)
                           (first | simp only [add_plain] at hx239_0 | simp only [add_at] at hx239_0 | simp only [Addr.add, Nat.zero_add] at hx239_0 | skip)
                           (first | simp only [add_plain] at hx239_1 | simp only [add_at] at hx239_1 | simp only [Addr.add, Nat.zero_add] at hx239_1 | skip)
                           replace p239 := eq_true p239
                           replace q239 := eq_true q239
                           have p241 : 0 ≤ (x7_1 : Int) := of_decide_eq_true (by first | (with_reducible assumption) | assumption)
                           have q241 : x7_1 < (x6_2.length : Int) := of_decide_eq_true (by first | (with_reducible assumption) | assumption)
                           obtain ⟨ad241, e241, hx241_0, hx241_1⟩ := at_T46 (Kd.R_reads' HO_6.out).2.2 x7_1 p241 q241
                           obtain rfl : (⟨go16, 0, none⟩ : Addr) = ad241 := (by injection e241)
                           (first | simp only [add_plain] at hx241_0 | simp only [add_at] at hx241_0 | simp only [Addr.add, Nat.zero_add] at hx241_0 | skip)
                           (first | simp only [add_plain] at hx241_1 | simp only [add_at] at hx241_1 | simp only [Addr.add, Nat.zero_add] at hx241_1 | skip)
                           replace p241 := eq_true p241
                           replace q241 := eq_true q241
                           refine start_ (n := 28) (S := fun w' => w'.cell? ⟨gb230, 0, none⟩ = some (.int .i64 (wrap64 (((rd_T46 x6_2 (Go.bits .andNot .i64 x7_1 (ji24))).f0) + 1))) ∧ w'.cell? ⟨gb230, 1, none⟩ = some (.int .i64 (rd l0 x32_2)) ∧ w'.cell? ⟨go16, (x7_1).toNat * 2, none⟩ = some (.int .i64 ((rd_T46 x6_2 x7_1).f0)) ∧ w'.cell? ⟨go16, (x7_1).toNat * 2 + 1, none⟩ = some (.int .i64 ((rd_T46 x6_2 x7_1).f1)) ∧ w'.cell? ⟨go16, (x7_1).toNat * 2, none⟩ = some (.int .i64 ((rd_T46 x6_2 x7_1).f0)) ∧ w'.cell? ⟨go16, (x7_1).toNat * 2 + 1, none⟩ = some (.int .i64 ((rd_T46 x6_2 x7_1).f1))) (ds := []) W31_ (by kernel_rfl) rfl rfl ⟨(blk_cell BK230.out 0).trans rfl, (blk_cell BK230.out 1).trans rfl, hx239_0, hx239_1, hx241_0, hx241_1⟩ (fun hHeld => ?_); refine with_tabW impl_FewestStrips.tab17 impl_FewestStrips.bits17 (fun HT_ HW_ => ?_)
                           generalize w101.drew = w102 at HO_6 BK230 HB hx239_0 hx239_1 hx241_0 hx241_1 hHeld ⊢
                           refine pz_ (i := 0) (N := some 77) W32_ rfl rfl (any_of HT_.out (by kernel_rfl)) ?_
                           refine pz_ (i := 2) (N := some 79) W33_ rfl rfl (any_of HT_.out (by kernel_rfl)) ?_
                           refine pz_ (i := 3) (N := some 80) W34_ rfl rfl (any_of HT_.out (by kernel_rfl)) ?_
                           refine pz_ (i := 4) (N := some 81) W35_ rfl rfl (any_of HT_.out (by kernel_rfl)) ?_
                           refine pz_ (i := 5) (N := some 82) W36_ rfl rfl (any_of HT_.out (by kernel_rfl)) ?_
                           refine take_ (i := 1) (N := some 78) (v := ?_) (a' := ?_) W37_ rfl rfl (take_ofW HT_.out HW_.out (by kernel_rfl)) (fun _ _ _ h => h) (Or.inl ⟨by rfl, ?_⟩) hHeld ?_ ?_
                           rotate_left
                           ·rintro w' ⟨s0, s1, s2, s3, s4, s5⟩
                            go_simp
                            with_reducible rfl
                           rotate_left
                           ·simp only [Act.put, List.setIfInBounds_toArray, List.set_cons_zero, List.set_cons_succ, i64_w, i32_w]
                            rfl
                           refine take_ (i := 6) (N := some 83) (v := ?_) (a' := ?_) W38_ rfl rfl (take_ofW HT_.out HW_.out (by kernel_rfl)) (fun _ _ _ h => h) (Or.inl ⟨by rfl, ?_⟩) hHeld ?_ ?_
                           rotate_left
                           ·rintro w' ⟨s0, s1, s2, s3, s4, s5⟩
                            go_simp
                            with_reducible rfl
                           rotate_left
                           ·simp only [Act.put, List.setIfInBounds_toArray, List.set_cons_zero, List.set_cons_succ, i64_w, i32_w]
                            rfl
                           refine pz_ (i := 7) (N := some 84) W39_ rfl rfl (any_of HT_.out (by kernel_rfl)) ?_
                           refine pz_ (i := 8) (N := some 85) W40_ rfl rfl (any_of HT_.out (by kernel_rfl)) ?_
                           refine pz_ (i := 9) (N := some 86) W41_ rfl rfl (any_of HT_.out (by kernel_rfl)) ?_
                           refine pz_ (i := 11) (N := some 88) W60_ rfl rfl (any_of HT_.out (by kernel_rfl)) ?_
                           refine pz_ (i := 12) (N := some 89) W61_ rfl rfl (any_of HT_.out (by kernel_rfl)) ?_
                           refine pz_ (i := 13) (N := some 90) W62_ rfl rfl (any_of HT_.out (by kernel_rfl)) ?_
                           refine pz_ (i := 14) (N := some 91) W63_ rfl rfl (any_of HT_.out (by kernel_rfl)) ?_
                           refine take_ (i := 10) (N := some 87) (v := ?_) (a' := ?_) W46_ rfl rfl (take_ofW HT_.out HW_.out (by kernel_rfl)) (fun _ _ _ h => h) (Or.inl ⟨by rfl, ?_⟩) hHeld ?_ ?_
                           rotate_left
                           ·rintro w' ⟨s0, s1, s2, s3, s4, s5⟩
                            go_simp
                            with_reducible rfl
                           rotate_left
                           ·simp only [Act.put, List.setIfInBounds_toArray, List.set_cons_zero, List.set_cons_succ, i64_w, i32_w]
                            rfl
                           refine take_ (i := 15) (N := some 92) (v := ?_) (a' := ?_) W47_ rfl rfl (take_ofW HT_.out HW_.out (by kernel_rfl)) (fun _ _ _ h => h) (Or.inl ⟨by rfl, ?_⟩) hHeld ?_ ?_
                           rotate_left
                           ·rintro w' ⟨s0, s1, s2, s3, s4, s5⟩
                            go_simp
                            with_reducible rfl
                           rotate_left
                           ·simp only [Act.put, List.setIfInBounds_toArray, List.set_cons_zero, List.set_cons_succ, i64_w, i32_w]
                            rfl
                           refine pz_ (i := 16) (N := some 93) W48_ rfl rfl (any_of HT_.out (by kernel_rfl)) ?_
                           refine pz_ (i := 17) (N := some 94) W49_ rfl rfl (any_of HT_.out (by kernel_rfl)) ?_
                           refine pu_ (i := 18) (N := some 95) W50_ rfl rfl (any_of HT_.out (by kernel_rfl)) ?_
                           refine pu_ (i := 19) (N := some 96) W51_ rfl rfl (any_of HT_.out (by kernel_rfl)) ?_
                           refine pu_ (i := 20) (N := some 97) W52_ rfl rfl (any_of HT_.out (by kernel_rfl)) ?_
                           refine pu_ (i := 21) (N := some 98) W53_ rfl rfl (any_of HT_.out (by kernel_rfl)) ?_
                           refine pu_ (i := 22) (N := some 99) W54_ rfl rfl (any_of HT_.out (by kernel_rfl)) ?_
                           refine pu_ (i := 23) (N := some 100) W55_ rfl rfl (any_of HT_.out (by kernel_rfl)) ?_
                           refine pu_ (i := 24) (N := some 101) W56_ rfl rfl (any_of HT_.out (by kernel_rfl)) ?_
                           refine pu_ (i := 25) (N := some 102) W57_ rfl rfl (any_of HT_.out (by kernel_rfl)) ?_
                           refine pz_ (i := 26) (N := some 103) W58_ rfl rfl (any_of HT_.out (by kernel_rfl)) ?_
                           refine pz_ (i := 27) (N := some 104) W59_ rfl rfl (any_of HT_.out (by kernel_rfl)) ?_
                           refine done_ (done_of HT_.out (by kernel_rfl)) ?_
                           try go_wp2
                           (try simp only [← hl6_2])
                           go_roundg kj26
                           case measure => have := HK1.out; have := HK2.out; have := HJ26.out; omega
                           case rel => exact ⟨(x6_2), (wrap64 (x32_2 + 1)), (by first | rfl | (simp; done) | (simp [*]; done)), H', ⟨by have := HK1.out; have := HK2.out; have := HJ26.out; omega⟩, ⟨by (try simp only [hl6_2]); (with_reducible repeat (first | apply Kd.R_alloc | apply Kd.R_drewN | apply Kd.R_drew)); exact Kd.R_mono HO_6.out (fun _ hk => trivial)⟩, ⟨by repeat (first | (with_reducible first | exact HB.out | apply below_alloc | apply pw_below_drewN | apply below_drew1 | refine below_set ?_ GE230.out) | exact HB.out)⟩⟩
                       ·rw [if_neg c71] at H
                        exact absurd H (by simp)
                      ·rw [if_neg c70] at H
                       exact absurd H (by simp)
                     ·rw [if_neg c69] at H
                      exact absurd H (by simp)
                    ·rw [if_neg c68] at H
                     exact absurd H (by simp)
                ·rw [if_neg c26] at H
                 exact absurd H (by simp)
               ·rw [if_neg c25] at H
                exact absurd H (by simp)
             ·rw [if_neg c20] at H
              exact absurd H (by simp)
            ·rw [if_neg c19] at H
             have c19b0 : decide (x32_2 < (l0.length : Int)) = false := decide_eq_false c19
             clear c19
             have H' := Aside0.mk H
             clear H
             go_wp2
             (try simp only [← hl6_2])
             go_roundg k2
             case measure => have := HK1.out; have := HK2.out; omega
             case rel => exact ⟨(x6_2), (wrap64 (x7_1 + 1)), (by first | rfl | (simp; done) | (simp [*]; done)), H', ⟨by have := HK1.out; have := HK2.out; omega⟩, ⟨by (try simp only [hl6_2]); (with_reducible repeat (first | apply Kd.R_alloc | apply Kd.R_drewN | apply Kd.R_drew)); exact HO_6.out⟩, ⟨by repeat (first | (with_reducible first | exact HB.out | apply below_alloc | apply pw_below_drewN | apply below_drew1) | exact HB.out)⟩⟩
         ·rw [if_neg c15] at H
          exact absurd H (by simp)
        ·rw [if_neg c14] at H
         exact absurd H (by simp)
       ·rw [if_neg c13] at H
        have c13b0 : decide (x7_1 < (ji5)) = false := decide_eq_false c13
        clear c13
        have c103b0 := eq_true (of_decide_eq_true (by first | (with_reducible assumption) | assumption) : 0 ≤ (l0.length : Int))
        have c104b0 := eq_true (of_decide_eq_true (by first | (with_reducible assumption) | assumption) : 0 ≤ (ji5))
        obtain ⟨ji105, hji105⟩ : ∃ j_ : Int, (wrap64 ((ji5) - 1)) = j_ := ⟨_, rfl⟩
        replace H : (if 0 ≤ (ji105) then (if (ji105) < (x6_1.length : Int) then (some ((rd_T46 x6_1 (ji105)).f0)) else (none)) else (none)) = some r := by first | (rw [hji105] at H; exact H) | (simp only [hji105] at H ⊢; exact H)
        have hji105w : (IntKind.i64.wrap ((ji5) - 1)) = ji105 := (i64_w _).trans hji105
        by_cases c106 : 0 ≤ (ji105)
        ·rw [if_pos c106] at H
         have c106b0 : decide (0 ≤ (ji105)) = true := decide_eq_true c106
         clear c106
         by_cases c107 : (ji105) < (x6_1.length : Int)
         ·rw [if_pos c107] at H
          have c107b0 : decide ((ji105) < (x6_1.length : Int)) = true := decide_eq_true c107
          clear c107
          obtain rfl := Option.some.inj H
          obtain ⟨Ao108, co108, eo108⟩ := Kd.R_slice HO_6.out
          subst eo108
          have p227 : 0 ≤ ((ji105) : Int) := of_decide_eq_true (by first | (with_reducible assumption) | assumption)
          have q227 : (ji105) < (x6_1.length : Int) := of_decide_eq_true (by first | (with_reducible assumption) | assumption)
          obtain ⟨ad227, e227, hx227_0, hx227_1⟩ := at_T46 (Kd.R_reads' HO_6.out).2.2 (ji105) p227 q227
          cases e227
          replace p227 := eq_true p227
          replace q227 := eq_true q227
          go_wp2
          go_ret
          exact ⟨by first | rfl | (simp [errW_none, errW_some] <;> rfl) | (simp only [← hji5, ← hji5, ← hji105]; first | rfl | (simp [errW_none, errW_some] <;> rfl)) | (simp [*, errW_none, errW_some] <;> rfl), by repeat (first | (with_reducible first | exact HB.out | apply below_alloc | apply pw_below_drewN | apply below_drew1) | exact HB.out)⟩
         ·rw [if_neg c107] at H
          exact absurd H (by simp)
        ·rw [if_neg c106] at H
         exact absurd H (by simp)
      ·rw [if_neg c11] at H
       exact absurd H (by simp)
   ·rw [if_neg c7] at H
    exact absurd H (by simp)
  ·rw [if_neg c6] at H
   exact absurd H (by simp)
 ·replace c4 := Bool.eq_false_iff.mpr c4
  subst c4
  have H1 : (some (-1)) = some r := by rw [if_neg (show ¬ (false = true) by decide)] at H; exact H
  clear H
  have H := H1
  clear H1
  obtain rfl := Option.some.inj H
  go_enter Try.func17, Try.ntmps17
  go_wp2_with (first | ((with_reducible refine gate_callee (f := 12) rfl ?_); refine goesL_ (some 12) rfl rfl Try.func12 (by kernel_rfl) rfl #[.slice A0 l0.length c0, .int .i64 a1] rfl (by (try simp only [List.map_toArray, List.map_cons, List.map_nil]); first | done | rfl | (simp only [List.length_drop, List.length_take]; rfl)) ?_; (with_reducible refine (impl_LengthsOk.calls _ _ l0 a1 false _ ?side1 ?side2 A3.out).mono ?_); (case side1 => repeat (first | exact HR0.out | (with_reducible refine Kd.C_alloc ?_ _) | (with_reducible refine Kd.C_drewN ?_ _) | (with_reducible refine Kd.C_drew ?_))); (case side2 => exact HC0.out); rintro e w109 ⟨rfl, hb⟩; refine ⟨_, rfl, ?_⟩; have n0_ := Aside0.mk (below_step (by repeat (first | (with_reducible first | exact HB.out | apply below_alloc | apply pw_below_drewN | apply below_drew1) | exact HB.out)) hb); clear HB; have HB := n0_; clear n0_; (try clear hb); (try clear hb2); (try clear hk); (try clear hi)))
  go_ret
  exact ⟨by first | rfl | (simp [errW_none, errW_some] <;> rfl) | (simp [*, errW_none, errW_some] <;> rfl), by repeat (first | (with_reducible first | exact HB.out | apply below_alloc | apply pw_below_drewN | apply below_drew1) | exact HB.out)⟩

end Go.Proofs.Ytcjbdbbnbhobbaa.Q
