/- The functions that the seat's statements reach, as plain Lean functions, and that the program's calls answer what they say; no condition beyond the values read. Written by a program of this session's over the kit's print. -/
import Derived.Test.YtcjbdbbnbhobbaaQx0
import Derived.Test.YtcjbdbbnbhobbaaQx1
namespace Go.Proofs.Ytcjbdbbnbhobbaa.Q
open Go.RowKit Go.Proofs.YtcjbdbbnbhobbaaW.PrintWords Go.Proofs.YtcjbdbbnbhobbaaW.PrintLast Go.Proofs.YtcjbdbbnbhobbaaW.PrintMore
attribute [local go_sem] max2_int min2_int max_two min_two max_three min_three max_four min_four   -- for this text's walks alone
set_option linter.unusedVariables false
set_option linter.unusedSimpArgs false

/-! ### spec_FewestStrips: function 25 -/
mutual
def spec_FewestStrips.l0 : Nat → List Int → Int → Int → List Int → List Int → Int → Option (Int)
  | 0, _, _, _, _, _, _ => none
  | k + 1, x0, x1, x5, x6, x7, x8 => if 0 ≤ x5 then (if x8 < (shl .i64 1 x5) then (if 0 ≤ x8 then (if x8 < (x6.length : Int) then (spec_FewestStrips.l1 k x0 x1 x5 (x6.set (x8 : Int).toNat (wrap64 (x5 + 1))) x7 x8 0) else (none)) else (none)) else (if 0 ≤ (wrap64 ((shl .i64 1 x5) - 1)) then (if (wrap64 ((shl .i64 1 x5) - 1)) < (x6.length : Int) then (some (rd x6 (wrap64 ((shl .i64 1 x5) - 1)))) else (none)) else (none))) else (none)
def spec_FewestStrips.l1 : Nat → List Int → Int → Int → List Int → List Int → Int → Int → Option (Int)
  | 0, _, _, _, _, _, _, _ => none
  | k + 1, x0, x1, x5, x6, x7, x8, x9 => if x9 < x5 then (if 0 ≤ x9 then (if (Go.bits .and .i64 (shr .i64 x8 x9) 1) = 0 then (spec_FewestStrips.l1 k x0 x1 x5 x6 x7 x8 (wrap64 (x9 + 1))) else (if 0 ≤ (wrap64 (x8 - (shl .i64 1 x9))) then (if (wrap64 (x8 - (shl .i64 1 x9))) < (x6.length : Int) then (if (wrap64 (x8 - (shl .i64 1 x9))) < (x7.length : Int) then (if x9 < (x0.length : Int) then (if (wrap64 ((rd x7 (wrap64 (x8 - (shl .i64 1 x9)))) + (rd x0 x9))) > x1 then (spec_FewestStrips.j2 k x0 x1 x5 x6 x7 x8 x9 (rd x6 (wrap64 (x8 - (shl .i64 1 x9)))) (wrap64 ((rd x7 (wrap64 (x8 - (shl .i64 1 x9)))) + (rd x0 x9))) true) else (spec_FewestStrips.j2 k x0 x1 x5 x6 x7 x8 x9 (rd x6 (wrap64 (x8 - (shl .i64 1 x9)))) (wrap64 ((rd x7 (wrap64 (x8 - (shl .i64 1 x9)))) + (rd x0 x9))) ((wrap64 (x8 - (shl .i64 1 x9))) == 0))) else (none)) else (none)) else (none)) else (none))) else (none)) else (spec_FewestStrips.l0 k x0 x1 x5 x6 x7 (wrap64 (x8 + 1)))
def spec_FewestStrips.j2 : Nat → List Int → Int → Int → List Int → List Int → Int → Int → Int → Int → Bool → Option (Int)
  | 0, _, _, _, _, _, _, _, _, _, _ => none
  | k + 1, x0, x1, x5, x6, x7, x8, x9, x11, x12, x69 => if x69 = true then (if 0 ≤ x9 then (if x9 < (x0.length : Int) then (if 0 ≤ x8 then (if x8 < (x6.length : Int) then (if (wrap64 (x11 + 1)) < (rd x6 x8) then (if x8 < (x7.length : Int) then (spec_FewestStrips.l1 k x0 x1 x5 (x6.set (x8 : Int).toNat (wrap64 (x11 + 1))) (x7.set (x8 : Int).toNat (rd x0 x9)) x8 (wrap64 (x9 + 1))) else (none)) else (if (wrap64 (x11 + 1)) = (rd x6 x8) then (if x8 < (x7.length : Int) then (if (rd x0 x9) < (rd x7 x8) then (spec_FewestStrips.l1 k x0 x1 x5 (x6.set (x8 : Int).toNat (wrap64 (x11 + 1))) (x7.set (x8 : Int).toNat (rd x0 x9)) x8 (wrap64 (x9 + 1))) else (spec_FewestStrips.l1 k x0 x1 x5 x6 x7 x8 (wrap64 (x9 + 1)))) else (none)) else (spec_FewestStrips.l1 k x0 x1 x5 x6 x7 x8 (wrap64 (x9 + 1))))) else (none)) else (none)) else (none)) else (none)) else (if 0 ≤ x8 then (if x8 < (x6.length : Int) then (if x11 < (rd x6 x8) then (if x8 < (x7.length : Int) then (spec_FewestStrips.l1 k x0 x1 x5 (x6.set (x8 : Int).toNat x11) (x7.set (x8 : Int).toNat x12) x8 (wrap64 (x9 + 1))) else (none)) else (if x11 = (rd x6 x8) then (if x8 < (x7.length : Int) then (if x12 < (rd x7 x8) then (spec_FewestStrips.l1 k x0 x1 x5 (x6.set (x8 : Int).toNat x11) (x7.set (x8 : Int).toNat x12) x8 (wrap64 (x9 + 1))) else (spec_FewestStrips.l1 k x0 x1 x5 x6 x7 x8 (wrap64 (x9 + 1)))) else (none)) else (spec_FewestStrips.l1 k x0 x1 x5 x6 x7 x8 (wrap64 (x9 + 1))))) else (none)) else (none))
end
def spec_FewestStrips.f (k : Nat) (l0 : List Int) (a1 : Int) : Option (Int) := (spec_LengthsOk.f k l0 a1).bind fun t407 => (if t407 = true then (if 0 ≤ (shl .i64 1 (l0.length : Int)) then (if (shl .i64 1 (l0.length : Int) : Int).toNat ≤ 35184372088832 then (spec_FewestStrips.l0 k l0 a1 (l0.length : Int) (List.replicate (shl .i64 1 (l0.length : Int) : Int).toNat 0) (List.replicate (shl .i64 1 (l0.length : Int) : Int).toNat 0) 1) else (none)) else (none)) else (some (-1)))
theorem spec_FewestStrips.mono_l : ∀ k, (∀ y0 y1 y2 y3 y4 y5, LeO (spec_FewestStrips.l0 k y0 y1 y2 y3 y4 y5) (spec_FewestStrips.l0 (k + 1) y0 y1 y2 y3 y4 y5)) ∧ (∀ y0 y1 y2 y3 y4 y5 y6, LeO (spec_FewestStrips.l1 k y0 y1 y2 y3 y4 y5 y6) (spec_FewestStrips.l1 (k + 1) y0 y1 y2 y3 y4 y5 y6)) ∧ (∀ y0 y1 y2 y3 y4 y5 y6 y7 y8 y9, LeO (spec_FewestStrips.j2 k y0 y1 y2 y3 y4 y5 y6 y7 y8 y9) (spec_FewestStrips.j2 (k + 1) y0 y1 y2 y3 y4 y5 y6 y7 y8 y9))
  | 0 => ⟨fun _ _ _ _ _ _ r h => by simp [spec_FewestStrips.l0] at h, fun _ _ _ _ _ _ _ r h => by simp [spec_FewestStrips.l1] at h, fun _ _ _ _ _ _ _ _ _ _ r h => by simp [spec_FewestStrips.j2] at h⟩
  | k + 1 => by
    obtain ⟨ih0, ih1, ih2⟩ := spec_FewestStrips.mono_l k
    refine ⟨?_, ?_, ?_⟩
    · intro y0 y1 y2 y3 y4 y5
      unfold spec_FewestStrips.l0
      repeat' first
      | (with_reducible exact ih0 _ _ _ _ _ _)
      | (with_reducible exact ih1 _ _ _ _ _ _ _)
      | (with_reducible exact ih2 _ _ _ _ _ _ _ _ _ _)
      | (with_reducible exact spec_LengthsOk.mono _ _ _)
      | (with_reducible exact LeO.refl _)
      | (with_reducible exact LeO.none _)
      | (with_reducible refine LeO.ite ?_ ?_)
      | (with_reducible refine LeO.bind ?_ (fun _ => ?_))
      | exact ih0 _ _ _ _ _ _
      | exact ih1 _ _ _ _ _ _ _
      | exact ih2 _ _ _ _ _ _ _ _ _ _
      | exact spec_LengthsOk.mono _ _ _
      | exact LeO.none _
      | refine LeO.ite ?_ ?_
      | refine LeO.bind ?_ (fun _ => ?_)
    · intro y0 y1 y2 y3 y4 y5 y6
      unfold spec_FewestStrips.l1
      repeat' first
      | (with_reducible exact ih0 _ _ _ _ _ _)
      | (with_reducible exact ih1 _ _ _ _ _ _ _)
      | (with_reducible exact ih2 _ _ _ _ _ _ _ _ _ _)
      | (with_reducible exact spec_LengthsOk.mono _ _ _)
      | (with_reducible exact LeO.refl _)
      | (with_reducible exact LeO.none _)
      | (with_reducible refine LeO.ite ?_ ?_)
      | (with_reducible refine LeO.bind ?_ (fun _ => ?_))
      | exact ih0 _ _ _ _ _ _
      | exact ih1 _ _ _ _ _ _ _
      | exact ih2 _ _ _ _ _ _ _ _ _ _
      | exact spec_LengthsOk.mono _ _ _
      | exact LeO.none _
      | refine LeO.ite ?_ ?_
      | refine LeO.bind ?_ (fun _ => ?_)
    · intro y0 y1 y2 y3 y4 y5 y6 y7 y8 y9
      unfold spec_FewestStrips.j2
      repeat' first
      | (with_reducible exact ih0 _ _ _ _ _ _)
      | (with_reducible exact ih1 _ _ _ _ _ _ _)
      | (with_reducible exact ih2 _ _ _ _ _ _ _ _ _ _)
      | (with_reducible exact spec_LengthsOk.mono _ _ _)
      | (with_reducible exact LeO.refl _)
      | (with_reducible exact LeO.none _)
      | (with_reducible refine LeO.ite ?_ ?_)
      | (with_reducible refine LeO.bind ?_ (fun _ => ?_))
      | exact ih0 _ _ _ _ _ _
      | exact ih1 _ _ _ _ _ _ _
      | exact ih2 _ _ _ _ _ _ _ _ _ _
      | exact spec_LengthsOk.mono _ _ _
      | exact LeO.none _
      | refine LeO.ite ?_ ?_
      | refine LeO.bind ?_ (fun _ => ?_)
theorem spec_FewestStrips.mono : ∀ a0 a1 k, LeO (spec_FewestStrips.f k a0 a1) (spec_FewestStrips.f (k + 1) a0 a1) := by
  intro a0 a1 k
  obtain ⟨ih0, ih1, ih2⟩ := spec_FewestStrips.mono_l k
  unfold spec_FewestStrips.f
  repeat' first
      | (with_reducible exact ih0 _ _ _ _ _ _)
      | (with_reducible exact ih1 _ _ _ _ _ _ _)
      | (with_reducible exact ih2 _ _ _ _ _ _ _ _ _ _)
      | (with_reducible exact spec_LengthsOk.mono _ _ _)
      | (with_reducible exact LeO.refl _)
      | (with_reducible exact LeO.none _)
      | (with_reducible refine LeO.ite ?_ ?_)
      | (with_reducible refine LeO.bind ?_ (fun _ => ?_))
      | exact ih0 _ _ _ _ _ _
      | exact ih1 _ _ _ _ _ _ _
      | exact ih2 _ _ _ _ _ _ _ _ _ _
      | exact spec_LengthsOk.mono _ _ _
      | exact LeO.none _
      | refine LeO.ite ?_ ?_
      | refine LeO.bind ?_ (fun _ => ?_)
set_option maxHeartbeats 8000000 in
set_option maxRecDepth 100000 in
theorem spec_FewestStrips.calls (k : Nat) (A0 : Option Addr) (c0 : Nat) (l0 : List Int) (a1 : Int) (r : Int) (w : World) (hr0 : Kd.C (Kd.int .i64) w A0 l0.length l0) (hc0 : l0.length ≤ c0) (h : spec_FewestStrips.f k l0 a1 = some r) :
    Calls Try.prog 25 #[.slice A0 l0.length c0, .int .i64 a1] w fun e w' => e = .returned (.int .i64 r) ∧ Below w.heap.size w w' := by
  have HR0 := Aside0.mk hr0
  have HC0 := Aside0.mk hc0
  clear hr0 hc0
  have HB := Aside0.mk (Below.refl w.heap.size w)
  have H : ((spec_LengthsOk.f k l0 a1).bind fun t407 => (if t407 = true then (if 0 ≤ (shl .i64 1 (l0.length : Int)) then (if (shl .i64 1 (l0.length : Int) : Int).toNat ≤ 35184372088832 then (spec_FewestStrips.l0 k l0 a1 (l0.length : Int) (List.replicate (shl .i64 1 (l0.length : Int) : Int).toNat 0) (List.replicate (shl .i64 1 (l0.length : Int) : Int).toNat 0) 1) else (none)) else (none)) else (some (-1)))) = some r := h
  clear h
  replace H := Option.bind_eq_some_iff.mp H
  obtain ⟨t407, A30, H⟩ := H
  replace H : (if t407 = true then (if 0 ≤ (shl .i64 1 (l0.length : Int)) then (if (shl .i64 1 (l0.length : Int) : Int).toNat ≤ 35184372088832 then (spec_FewestStrips.l0 k l0 a1 (l0.length : Int) (List.replicate (shl .i64 1 (l0.length : Int) : Int).toNat 0) (List.replicate (shl .i64 1 (l0.length : Int) : Int).toNat 0) 1) else (none)) else (none)) else (some (-1))) = some r := H
  have A3 := Aside0.mk A30
  clear A30
  by_cases c4 : t407 = true
  · subst c4
    have H1 : (if 0 ≤ (shl .i64 1 (l0.length : Int)) then (if (shl .i64 1 (l0.length : Int) : Int).toNat ≤ 35184372088832 then (spec_FewestStrips.l0 k l0 a1 (l0.length : Int) (List.replicate (shl .i64 1 (l0.length : Int) : Int).toNat 0) (List.replicate (shl .i64 1 (l0.length : Int) : Int).toNat 0) 1) else (none)) else (none)) = some r := by rw [if_pos rfl] at H; exact H
    clear H
    have H := H1
    clear H1
    obtain ⟨ji5, hji5⟩ : ∃ j_ : Int, (shl .i64 1 (l0.length : Int)) = j_ := ⟨_, rfl⟩
    replace H : (if 0 ≤ (ji5) then (if (ji5 : Int).toNat ≤ 35184372088832 then (spec_FewestStrips.l0 k l0 a1 (l0.length : Int) (List.replicate (ji5 : Int).toNat 0) (List.replicate (ji5 : Int).toNat 0) 1) else (none)) else (none)) = some r := by first | (rw [hji5] at H; exact H) | (simp only [hji5] at H ⊢; exact H)
    (try rw [hji5] at A3)
    have hji5_ : (IntKind.i64.wrap (1 * 2 ^ min (l0.length : Int).toNat 64)) = ji5 := hji5
    have hji5z : (l0.length : Int) ≤ 64 → (IntKind.i64.wrap (1 * 2 ^ (l0.length : Int).toNat)) = ji5 := shl_small hji5
    have hji5p : (IntKind.i64.wrap (1 * 2 ^ min l0.length 64)) = ji5 := hji5_
    have hji5q : (l0.length : Int) ≤ 64 → (IntKind.i64.wrap (1 * 2 ^ l0.length)) = ji5 := hji5z
    have hji5r : (IntKind.i64.wrap (2 ^ min l0.length 64)) = ji5 := by have h_ := hji5p; rw [Int.one_mul] at h_; exact h_
    have hji5s : (l0.length : Int) ≤ 64 → (IntKind.i64.wrap (2 ^ l0.length)) = ji5 := fun hle_ => by have h_ := hji5q hle_; rw [Int.one_mul] at h_; exact h_
    have hji5u : (IntKind.i64.wrap (2 ^ min (l0.length : Int).toNat 64)) = ji5 := by have h_ := hji5_; rw [Int.one_mul] at h_; exact h_
    have hji5v : (l0.length : Int) ≤ 64 → (IntKind.i64.wrap (2 ^ (l0.length : Int).toNat)) = ji5 := fun hle_ => by have h_ := hji5z hle_; rw [Int.one_mul] at h_; exact h_
    have hji5y : (wrap64 (1 * 2 ^ min (l0.length : Int).toNat 64)) = ji5 := (i64_w _).symm.trans hji5_
    have hji5x : (l0.length : Int) ≤ 64 → (wrap64 (1 * 2 ^ (l0.length : Int).toNat)) = ji5 := fun h_ => (i64_w _).symm.trans (hji5z h_)
    by_cases c6 : 0 ≤ (ji5)
    · rw [if_pos c6] at H
      have c6b0 := eq_true c6
      have c6b1 : decide (0 ≤ (ji5)) = true := decide_eq_true c6
      clear c6
      by_cases c7 : (ji5 : Int).toNat ≤ 35184372088832
      · rw [if_pos c7] at H
        have c7b0 := eq_true c7
        have c7b1 : decide ((ji5 : Int).toNat ≤ 35184372088832) = true := decide_eq_true c7
        clear c7
        obtain ⟨y408, hy408⟩ : ∃ y_ : List Int, y_ = (List.replicate (ji5 : Int).toNat 0) := ⟨_, rfl⟩
        replace H : (spec_FewestStrips.l0 k l0 a1 (l0.length : Int) y408 (List.replicate (ji5 : Int).toNat 0) 1) = some r := by first | (rw [hy408]; with_reducible exact H) | (have H2_ := (Option.bind_some _ _).symm.trans H; rw [hy408]; with_reducible exact H2_) | (have H2_ := (Option.bind_some _ _).symm.trans H; with_reducible exact H2_) | with_reducible exact H | (rw [hy408]; exact H) | exact H
        have Ny408 := Aside0.mk hy408
        clear hy408
        have c8b0 := eq_true (of_decide_eq_true (by first | (with_reducible assumption) | assumption) : 0 ≤ (ji5))
        obtain ⟨y411, hy411⟩ : ∃ y_ : List Int, y_ = (List.replicate (ji5 : Int).toNat 0) := ⟨_, rfl⟩
        replace H : (spec_FewestStrips.l0 k l0 a1 (l0.length : Int) y408 y411 1) = some r := by first | (rw [hy411]; with_reducible exact H) | (have H2_ := (Option.bind_some _ _).symm.trans H; rw [hy411]; with_reducible exact H2_) | (have H2_ := (Option.bind_some _ _).symm.trans H; with_reducible exact H2_) | with_reducible exact H | (rw [hy411]; exact H) | exact H
        have Ny411 := Aside0.mk hy411
        clear hy411
        have H' := Aside0.mk H
        clear H
        go_enter Try.func25, Try.ntmps25
        go_wp2_with (first | (go_at_call 10; (with_reducible refine (spec_LengthsOk.calls k _ _ l0 a1 true _ ?side1 ?side2 A3.out).mono ?_); (case side1 => repeat (first | exact HR0.out | (with_reducible refine Kd.C_alloc ?_ _) | (with_reducible refine Kd.C_drewN ?_ _) | (with_reducible refine Kd.C_drew ?_))); (case side2 => exact HC0.out); rintro e w' ⟨rfl, ⟨nd, rfl⟩⟩; (try first | exact ⟨rfl, _, World.drewN_drewN _ _ _⟩ | exact ⟨rfl, _, Eq.trans (World.drewN_drewN _ _ _) (congrArg (World.drewN _) (Nat.add_assoc _ _ _))⟩)) | ((with_reducible refine gate_dst (N := 21) rfl ?_); refine Kd.R_make (Kd.int .i64) _ 3 rfl (N := 21) rfl 22 _ _ rfl ji5 rfl rfl Try.underlying22 (.int .i64 0) 8 info3 rfl (by decide) (by omega) 0 (ok := fun _ => True) (okp := fun _ => True) rfl (fun _ hk => hk) trivial (of_decide_eq_true (by first | (with_reducible assumption) | assumption)) (Nat.le_trans (Nat.mul_le_mul_right _ (of_decide_eq_true (by first | (with_reducible assumption) | assumption) : ji5.toNat ≤ 35184372088832)) (by omega)) (Below.refl _ _) (Nat.le_refl _) ?_; intro v409 w9 ho10 hb hg_ hnew_; clear hg_ hnew_; (first | rw [← Ny408.out] at ho10 | (simp only [Int.reduceToNat] at ho10; rw [← Ny408.out] at ho10)); have n0_ := Aside0.mk (Kd.R_lower ho10 (below_size (by repeat (first | (with_reducible first | exact HB.out | apply below_alloc | apply pw_below_drewN | apply below_drew1) | exact HB.out)))); have n1_ := Aside0.mk (below_step (by repeat (first | (with_reducible first | exact HB.out | apply below_alloc | apply pw_below_drewN | apply below_drew1) | exact HB.out)) hb); clear HB; have HO410 := n0_; have HB := n1_; clear n0_ n1_; clear hb ho10) | ((with_reducible refine gate_dst (N := 24) rfl ?_); refine Kd.R_make (Kd.int .i64) _ 3 rfl (N := 24) rfl 22 _ _ rfl ji5 rfl rfl Try.underlying22 (.int .i64 0) 8 info3 rfl (by decide) (by omega) 0 (ok := fun _ => True) (okp := fun _ => True) rfl (fun _ hk => hk) trivial (of_decide_eq_true (by first | (with_reducible assumption) | assumption)) (Nat.le_trans (Nat.mul_le_mul_right _ (of_decide_eq_true (by first | (with_reducible assumption) | assumption) : ji5.toNat ≤ 35184372088832)) (by omega)) (Below.refl _ _) (Nat.le_refl _) ?_; intro v412 w11 ho12 hb hg_ hnew_; clear hg_ hnew_; (first | rw [← Ny411.out] at ho12 | (simp only [Int.reduceToNat] at ho12; rw [← Ny411.out] at ho12)); have n0_ := Aside0.mk (Kd.R_elder' (by (with_reducible repeat (first | apply Kd.R_alloc | apply Kd.R_drewN | apply Kd.R_drew)); exact HO410.out) (Kd.R_base ho12) hb); have n1_ := Aside0.mk (Kd.R_lower (Kd.R_new' ho12 (Kd.R_lt (by (with_reducible repeat (first | apply Kd.R_alloc | apply Kd.R_drewN | apply Kd.R_drew)); exact HO410.out))) (below_size (by repeat (first | (with_reducible first | exact HB.out | apply below_alloc | apply pw_below_drewN | apply below_drew1) | exact HB.out)))); have n2_ := Aside0.mk (below_step (by repeat (first | (with_reducible first | exact HB.out | apply below_alloc | apply pw_below_drewN | apply below_drew1) | exact HB.out)) hb); clear HO410; clear HB; have HO410 := n0_; have HO413 := n1_; have HB := n2_; clear n0_ n1_ n2_; clear hb ho12))
        repeat (go_quiet (first | (go_at_call 10; (with_reducible refine (spec_LengthsOk.calls k _ _ l0 a1 true _ ?side1 ?side2 A3.out).mono ?_); (case side1 => repeat (first | exact HR0.out | (with_reducible refine Kd.C_alloc ?_ _) | (with_reducible refine Kd.C_drewN ?_ _) | (with_reducible refine Kd.C_drew ?_))); (case side2 => exact HC0.out); rintro e w' ⟨rfl, ⟨nd, rfl⟩⟩; (try first | exact ⟨rfl, _, World.drewN_drewN _ _ _⟩ | exact ⟨rfl, _, Eq.trans (World.drewN_drewN _ _ _) (congrArg (World.drewN _) (Nat.add_assoc _ _ _))⟩)) | ((with_reducible refine gate_dst (N := 21) rfl ?_); refine Kd.R_make (Kd.int .i64) _ 3 rfl (N := 21) rfl 22 _ _ rfl ji5 rfl rfl Try.underlying22 (.int .i64 0) 8 info3 rfl (by decide) (by omega) 0 (ok := fun _ => True) (okp := fun _ => True) rfl (fun _ hk => hk) trivial (of_decide_eq_true (by first | (with_reducible assumption) | assumption)) (Nat.le_trans (Nat.mul_le_mul_right _ (of_decide_eq_true (by first | (with_reducible assumption) | assumption) : ji5.toNat ≤ 35184372088832)) (by omega)) (Below.refl _ _) (Nat.le_refl _) ?_; intro v409 w9 ho10 hb hg_ hnew_; clear hg_ hnew_; (first | rw [← Ny408.out] at ho10 | (simp only [Int.reduceToNat] at ho10; rw [← Ny408.out] at ho10)); have n0_ := Aside0.mk (Kd.R_lower ho10 (below_size (by repeat (first | (with_reducible first | exact HB.out | apply below_alloc | apply pw_below_drewN | apply below_drew1) | exact HB.out)))); have n1_ := Aside0.mk (below_step (by repeat (first | (with_reducible first | exact HB.out | apply below_alloc | apply pw_below_drewN | apply below_drew1) | exact HB.out)) hb); clear HB; have HO410 := n0_; have HB := n1_; clear n0_ n1_; clear hb ho10) | ((with_reducible refine gate_dst (N := 24) rfl ?_); refine Kd.R_make (Kd.int .i64) _ 3 rfl (N := 24) rfl 22 _ _ rfl ji5 rfl rfl Try.underlying22 (.int .i64 0) 8 info3 rfl (by decide) (by omega) 0 (ok := fun _ => True) (okp := fun _ => True) rfl (fun _ hk => hk) trivial (of_decide_eq_true (by first | (with_reducible assumption) | assumption)) (Nat.le_trans (Nat.mul_le_mul_right _ (of_decide_eq_true (by first | (with_reducible assumption) | assumption) : ji5.toNat ≤ 35184372088832)) (by omega)) (Below.refl _ _) (Nat.le_refl _) ?_; intro v412 w11 ho12 hb hg_ hnew_; clear hg_ hnew_; (first | rw [← Ny411.out] at ho12 | (simp only [Int.reduceToNat] at ho12; rw [← Ny411.out] at ho12)); have n0_ := Aside0.mk (Kd.R_elder' (by (with_reducible repeat (first | apply Kd.R_alloc | apply Kd.R_drewN | apply Kd.R_drew)); exact HO410.out) (Kd.R_base ho12) hb); have n1_ := Aside0.mk (Kd.R_lower (Kd.R_new' ho12 (Kd.R_lt (by (with_reducible repeat (first | apply Kd.R_alloc | apply Kd.R_drewN | apply Kd.R_drew)); exact HO410.out))) (below_size (by repeat (first | (with_reducible first | exact HB.out | apply below_alloc | apply pw_below_drewN | apply below_drew1) | exact HB.out)))); have n2_ := Aside0.mk (below_step (by repeat (first | (with_reducible first | exact HB.out | apply below_alloc | apply pw_below_drewN | apply below_drew1) | exact HB.out)) hb); clear HO410; clear HB; have HO410 := n0_; have HO413 := n1_; have HB := n2_; clear n0_ n1_ n2_; clear hb ho12)); try go_wp2_with (first | (go_at_call 10; (with_reducible refine (spec_LengthsOk.calls k _ _ l0 a1 true _ ?side1 ?side2 A3.out).mono ?_); (case side1 => repeat (first | exact HR0.out | (with_reducible refine Kd.C_alloc ?_ _) | (with_reducible refine Kd.C_drewN ?_ _) | (with_reducible refine Kd.C_drew ?_))); (case side2 => exact HC0.out); rintro e w' ⟨rfl, ⟨nd, rfl⟩⟩; (try first | exact ⟨rfl, _, World.drewN_drewN _ _ _⟩ | exact ⟨rfl, _, Eq.trans (World.drewN_drewN _ _ _) (congrArg (World.drewN _) (Nat.add_assoc _ _ _))⟩)) | ((with_reducible refine gate_dst (N := 21) rfl ?_); refine Kd.R_make (Kd.int .i64) _ 3 rfl (N := 21) rfl 22 _ _ rfl ji5 rfl rfl Try.underlying22 (.int .i64 0) 8 info3 rfl (by decide) (by omega) 0 (ok := fun _ => True) (okp := fun _ => True) rfl (fun _ hk => hk) trivial (of_decide_eq_true (by first | (with_reducible assumption) | assumption)) (Nat.le_trans (Nat.mul_le_mul_right _ (of_decide_eq_true (by first | (with_reducible assumption) | assumption) : ji5.toNat ≤ 35184372088832)) (by omega)) (Below.refl _ _) (Nat.le_refl _) ?_; intro v409 w9 ho10 hb hg_ hnew_; clear hg_ hnew_; (first | rw [← Ny408.out] at ho10 | (simp only [Int.reduceToNat] at ho10; rw [← Ny408.out] at ho10)); have n0_ := Aside0.mk (Kd.R_lower ho10 (below_size (by repeat (first | (with_reducible first | exact HB.out | apply below_alloc | apply pw_below_drewN | apply below_drew1) | exact HB.out)))); have n1_ := Aside0.mk (below_step (by repeat (first | (with_reducible first | exact HB.out | apply below_alloc | apply pw_below_drewN | apply below_drew1) | exact HB.out)) hb); clear HB; have HO410 := n0_; have HB := n1_; clear n0_ n1_; clear hb ho10) | ((with_reducible refine gate_dst (N := 24) rfl ?_); refine Kd.R_make (Kd.int .i64) _ 3 rfl (N := 24) rfl 22 _ _ rfl ji5 rfl rfl Try.underlying22 (.int .i64 0) 8 info3 rfl (by decide) (by omega) 0 (ok := fun _ => True) (okp := fun _ => True) rfl (fun _ hk => hk) trivial (of_decide_eq_true (by first | (with_reducible assumption) | assumption)) (Nat.le_trans (Nat.mul_le_mul_right _ (of_decide_eq_true (by first | (with_reducible assumption) | assumption) : ji5.toNat ≤ 35184372088832)) (by omega)) (Below.refl _ _) (Nat.le_refl _) ?_; intro v412 w11 ho12 hb hg_ hnew_; clear hg_ hnew_; (first | rw [← Ny411.out] at ho12 | (simp only [Int.reduceToNat] at ho12; rw [← Ny411.out] at ho12)); have n0_ := Aside0.mk (Kd.R_elder' (by (with_reducible repeat (first | apply Kd.R_alloc | apply Kd.R_drewN | apply Kd.R_drew)); exact HO410.out) (Kd.R_base ho12) hb); have n1_ := Aside0.mk (Kd.R_lower (Kd.R_new' ho12 (Kd.R_lt (by (with_reducible repeat (first | apply Kd.R_alloc | apply Kd.R_drewN | apply Kd.R_drew)); exact HO410.out))) (below_size (by repeat (first | (with_reducible first | exact HB.out | apply below_alloc | apply pw_below_drewN | apply below_drew1) | exact HB.out)))); have n2_ := Aside0.mk (below_step (by repeat (first | (with_reducible first | exact HB.out | apply below_alloc | apply pw_below_drewN | apply below_drew1) | exact HB.out)) hb); clear HO410; clear HB; have HO410 := n0_; have HO413 := n1_; have HB := n2_; clear n0_ n1_ n2_; clear hb ho12)))
        go_loopg [8] k (fun kq v8 w' => ∃ (x6_1 : List Int) (x7_1 : List Int) (x8_1 : Int), v8 = .int .i64 x8_1 ∧ Aside0 (spec_FewestStrips.l0 kq l0 a1 (l0.length : Int) x6_1 x7_1 x8_1 = some r) ∧ Aside0 (kq ≤ k) ∧ Aside0 (Kd.R (Kd.int .i64) 3 w' w.heap.size (fun k_ => some k_ ≠ (v412 : Value).ownBlock) v409 x6_1) ∧ Aside0 (Kd.R (Kd.int .i64) 3 w' w.heap.size (fun k_ => some k_ ≠ (v409 : Value).ownBlock) v412 x7_1) ∧ Aside0 (Below w.heap.size w w'))
        case atStart => exact ⟨(y408), (y411), (1), (by first | rfl | (simp; done) | (simp [*]; done)), H', ⟨Nat.le_refl _⟩, ⟨by (with_reducible repeat (first | apply Kd.R_alloc | apply Kd.R_drewN | apply Kd.R_drew)); exact Kd.R_mono HO410.out (fun _ hk => hk.2)⟩, ⟨by (with_reducible repeat (first | apply Kd.R_alloc | apply Kd.R_drewN | apply Kd.R_drew)); exact Kd.R_mono HO413.out (fun _ hk => hk.2)⟩, ⟨by repeat (first | (with_reducible first | exact HB.out | apply below_alloc | apply pw_below_drewN | apply below_drew1) | exact HB.out)⟩⟩
        case round =>
          clear H'
          try clear c2
          try clear p2
          try clear c4
          try clear c6
          try clear p6
          try clear c7
          try clear c7b0
          try clear c7b1
          try clear c8
          try clear c8b0
          obtain ⟨x6_1, x7_1, x8_1, rfl, HA, HK1, HO_6, HO_7, HB⟩ := hrel
          cases gk with
          | zero => exact absurd HA.out (by simp [spec_FewestStrips.l0])
          | succ k1 =>
            have H := HA.out
            clear HA
            simp only [spec_FewestStrips.l0] at H
            by_cases c13 : 0 ≤ (l0.length : Int)
            · rw [if_pos c13] at H
              have c13b0 := eq_true c13
              have c13b1 : decide (0 ≤ (l0.length : Int)) = true := decide_eq_true c13
              clear c13
              replace H : (if x8_1 < (ji5) then (if 0 ≤ x8_1 then (if x8_1 < (x6_1.length : Int) then (spec_FewestStrips.l1 k1 l0 a1 (l0.length : Int) (x6_1.set (x8_1 : Int).toNat (wrap64 ((l0.length : Int) + 1))) x7_1 x8_1 0) else (none)) else (none)) else (if 0 ≤ (wrap64 ((ji5) - 1)) then (if (wrap64 ((ji5) - 1)) < (x6_1.length : Int) then (some (rd x6_1 (wrap64 ((ji5) - 1)))) else (none)) else (none))) = some r := by first | (rw [hji5] at H; exact H) | (simp only [hji5] at H ⊢; exact H)
              by_cases c15 : x8_1 < (ji5)
              · rw [if_pos c15] at H
                have c15b0 : decide (x8_1 < (ji5)) = true := decide_eq_true c15
                clear c15
                by_cases c16 : 0 ≤ x8_1
                · rw [if_pos c16] at H
                  have c16b0 : decide (0 ≤ x8_1) = true := decide_eq_true c16
                  clear c16
                  by_cases c17 : x8_1 < (x6_1.length : Int)
                  · rw [if_pos c17] at H
                    have c17b0 : decide (x8_1 < (x6_1.length : Int)) = true := decide_eq_true c17
                    clear c17
                    obtain ⟨y415, hy415⟩ : ∃ y_ : List Int, y_ = (x6_1.set (x8_1 : Int).toNat (wrap64 ((l0.length : Int) + 1))) := ⟨_, rfl⟩
                    replace H : (spec_FewestStrips.l1 k1 l0 a1 (l0.length : Int) y415 x7_1 x8_1 0) = some r := by first | (rw [hy415]; with_reducible exact H) | (have H2_ := (Option.bind_some _ _).symm.trans H; rw [hy415]; with_reducible exact H2_) | (have H2_ := (Option.bind_some _ _).symm.trans H; with_reducible exact H2_) | with_reducible exact H | (rw [hy415]; exact H) | exact H
                    have Ny415 := Aside0.mk hy415
                    clear hy415
                    have H' := Aside0.mk H
                    clear H
                    have p18 : 0 ≤ (x8_1 : Int) := of_decide_eq_true (by first | (with_reducible assumption) | assumption)
                    have q18 : (x8_1 : Int) < ((x6_1.length : Int) : Int) := of_decide_eq_true (by first | (with_reducible assumption) | assumption)
                    obtain ⟨go18, co18, eo18, gb18, gl18, cl18, HG18⟩ := Kd.R_form HO_6.out (by omega)
                    (first | cases eo18 | (injection eo18 with ea_ en_ ec_; (first | subst ea_ | (injection ea_ with ea_; subst ea_)); subst ec_; clear en_))
                    have GB18 := Aside0.mk gb18
                    have GG18 := Aside0.mk HG18
                    clear gb18 gl18 HG18
                    obtain ⟨hx18_0, hf18_0⟩ := Kd.R_celln 0 HO_6.out (x8_1 : Int) p18 q18
                    replace p18 := eq_true p18
                    replace q18 := eq_true q18
                    have HP19 := Kd.R_putg HO_6.out (x8_1 : Int) (wrap64 ((l0.length : Int) + 1))
                    go_wp2_with (first | ((with_reducible refine gate_store (t := 3) (p := 35) rfl ?_); (try (rw [drewN_self wr]; generalize hq_ : World.drewN wr _ = wr; have n0_ := Aside0.mk (Kd.R_at hq_ HO_6.out); have n1_ := Aside0.mk (Kd.R_at hq_ HO_7.out); have n2_ := Aside0.mk (below_at hq_ HB.out); clear hq_ HO_6 HO_7 HB; have HO_6 := n0_; have HO_7 := n1_; have HB := n2_; clear n0_ n1_ n2_; (try (have HP19 := Kd.R_putg HO_6.out (x8_1 : Int) (wrap64 ((l0.length : Int) + 1)))))); refine store_event (t := 3) (p := 35) (v := ?vo_w20) (w1 := (wr.setCell ⟨go18, (x8_1 : Int).toNat, none⟩ (.int .i64 (wrap64 ((l0.length : Int) + 1))))) ?hg ?ho ?hn ?hr ?_; (case ho => rfl); (case hg => rfl); (case hn => rfl); (case hr => first | (go_simp; done) | (go_simp; rfl)); intro w20 hw; have hg : wr.grownBy w20 (some go18) := (by rw [hw]; exact HP19.2); have hp_ : Kd.R (Kd.int .i64) 3 w20 w.heap.size (fun k_ => some k_ ≠ (v412 : Value).ownBlock) (.slice (some ⟨go18, 0, none⟩) x6_1.length co18) y415 := (by rw [hw, Ny415.out]; exact HP19.1); clear HP19; have n0_ := Aside0.mk (hp_); have n1_ := Aside0.mk (Kd.R_after (v := (.slice (some ⟨go18, 0, none⟩) x6_1.length co18)) (v1 := (.slice (some ⟨go18, 0, none⟩) x6_1.length co18)) (ok := (fun _ => True)) (by (with_reducible repeat (first | apply Kd.R_alloc | apply Kd.R_drewN | apply Kd.R_drew)); exact Kd.R_mono HO_7.out (fun _ hk => ⟨trivial, hk⟩)) hg (.inl rfl)); have n2_ := Aside0.mk ((by rw [hw]; exact below_set (HB.out) GB18.out : Below w.heap.size w w20)); clear HO_6; clear HO_7; clear HB; have HO_6 := n0_; have HO_7 := n1_; have HB := n2_; clear n0_ n1_ n2_; clear hg hw hp_))
                    repeat (go_quiet (first | ((with_reducible refine gate_store (t := 3) (p := 35) rfl ?_); (try (rw [drewN_self wr]; generalize hq_ : World.drewN wr _ = wr; have n0_ := Aside0.mk (Kd.R_at hq_ HO_6.out); have n1_ := Aside0.mk (Kd.R_at hq_ HO_7.out); have n2_ := Aside0.mk (below_at hq_ HB.out); clear hq_ HO_6 HO_7 HB; have HO_6 := n0_; have HO_7 := n1_; have HB := n2_; clear n0_ n1_ n2_; (try (have HP19 := Kd.R_putg HO_6.out (x8_1 : Int) (wrap64 ((l0.length : Int) + 1)))))); refine store_event (t := 3) (p := 35) (v := ?vo_w20) (w1 := (wr.setCell ⟨go18, (x8_1 : Int).toNat, none⟩ (.int .i64 (wrap64 ((l0.length : Int) + 1))))) ?hg ?ho ?hn ?hr ?_; (case ho => rfl); (case hg => rfl); (case hn => rfl); (case hr => first | (go_simp; done) | (go_simp; rfl)); intro w20 hw; have hg : wr.grownBy w20 (some go18) := (by rw [hw]; exact HP19.2); have hp_ : Kd.R (Kd.int .i64) 3 w20 w.heap.size (fun k_ => some k_ ≠ (v412 : Value).ownBlock) (.slice (some ⟨go18, 0, none⟩) x6_1.length co18) y415 := (by rw [hw, Ny415.out]; exact HP19.1); clear HP19; have n0_ := Aside0.mk (hp_); have n1_ := Aside0.mk (Kd.R_after (v := (.slice (some ⟨go18, 0, none⟩) x6_1.length co18)) (v1 := (.slice (some ⟨go18, 0, none⟩) x6_1.length co18)) (ok := (fun _ => True)) (by (with_reducible repeat (first | apply Kd.R_alloc | apply Kd.R_drewN | apply Kd.R_drew)); exact Kd.R_mono HO_7.out (fun _ hk => ⟨trivial, hk⟩)) hg (.inl rfl)); have n2_ := Aside0.mk ((by rw [hw]; exact below_set (HB.out) GB18.out : Below w.heap.size w w20)); clear HO_6; clear HO_7; clear HB; have HO_6 := n0_; have HO_7 := n1_; have HB := n2_; clear n0_ n1_ n2_; clear hg hw hp_)); try go_wp2_with (first | ((with_reducible refine gate_store (t := 3) (p := 35) rfl ?_); (try (rw [drewN_self wr]; generalize hq_ : World.drewN wr _ = wr; have n0_ := Aside0.mk (Kd.R_at hq_ HO_6.out); have n1_ := Aside0.mk (Kd.R_at hq_ HO_7.out); have n2_ := Aside0.mk (below_at hq_ HB.out); clear hq_ HO_6 HO_7 HB; have HO_6 := n0_; have HO_7 := n1_; have HB := n2_; clear n0_ n1_ n2_; (try (have HP19 := Kd.R_putg HO_6.out (x8_1 : Int) (wrap64 ((l0.length : Int) + 1)))))); refine store_event (t := 3) (p := 35) (v := ?vo_w20) (w1 := (wr.setCell ⟨go18, (x8_1 : Int).toNat, none⟩ (.int .i64 (wrap64 ((l0.length : Int) + 1))))) ?hg ?ho ?hn ?hr ?_; (case ho => rfl); (case hg => rfl); (case hn => rfl); (case hr => first | (go_simp; done) | (go_simp; rfl)); intro w20 hw; have hg : wr.grownBy w20 (some go18) := (by rw [hw]; exact HP19.2); have hp_ : Kd.R (Kd.int .i64) 3 w20 w.heap.size (fun k_ => some k_ ≠ (v412 : Value).ownBlock) (.slice (some ⟨go18, 0, none⟩) x6_1.length co18) y415 := (by rw [hw, Ny415.out]; exact HP19.1); clear HP19; have n0_ := Aside0.mk (hp_); have n1_ := Aside0.mk (Kd.R_after (v := (.slice (some ⟨go18, 0, none⟩) x6_1.length co18)) (v1 := (.slice (some ⟨go18, 0, none⟩) x6_1.length co18)) (ok := (fun _ => True)) (by (with_reducible repeat (first | apply Kd.R_alloc | apply Kd.R_drewN | apply Kd.R_drew)); exact Kd.R_mono HO_7.out (fun _ hk => ⟨trivial, hk⟩)) hg (.inl rfl)); have n2_ := Aside0.mk ((by rw [hw]; exact below_set (HB.out) GB18.out : Below w.heap.size w w20)); clear HO_6; clear HO_7; clear HB; have HO_6 := n0_; have HO_7 := n1_; have HB := n2_; clear n0_ n1_ n2_; clear hg hw hp_)))
                    go_loopg [9] k1 (fun kq v9 w' => ∃ (x6_2 : List Int) (x7_2 : List Int) (x9_2 : Int), v9 = .int .i64 x9_2 ∧ Aside0 (spec_FewestStrips.l1 kq l0 a1 (l0.length : Int) x6_2 x7_2 x8_1 x9_2 = some r) ∧ Aside0 (kq ≤ k1) ∧ Aside0 (Kd.R (Kd.int .i64) 3 w' w.heap.size (fun k_ => some k_ ≠ (v412 : Value).ownBlock) (.slice (some ⟨go18, 0, none⟩) x6_1.length co18) x6_2) ∧ Aside0 (Kd.R (Kd.int .i64) 3 w' w.heap.size (fun k_ => some k_ ≠ ((.slice (some ⟨go18, 0, none⟩) x6_1.length co18) : Value).ownBlock) v412 x7_2) ∧ Aside0 (Below w.heap.size w w'))
                    case atStart => exact ⟨(y415), (x7_1), (0), (by first | rfl | (simp; done) | (simp [*]; done)), H', ⟨Nat.le_refl _⟩, ⟨by (with_reducible repeat (first | apply Kd.R_alloc | apply Kd.R_drewN | apply Kd.R_drew)); exact HO_6.out⟩, ⟨by (with_reducible repeat (first | apply Kd.R_alloc | apply Kd.R_drewN | apply Kd.R_drew)); exact Kd.R_mono HO_7.out (fun _ hk => hk.2)⟩, ⟨by repeat (first | (with_reducible first | exact HB.out | apply below_alloc | apply pw_below_drewN | apply below_drew1) | exact HB.out)⟩⟩
                    case round =>
                      clear H'
                      try clear c1
                      try clear p1
                      try clear q1
                      try clear hx1
                      try clear c2
                      try clear p2
                      try clear c4
                      try clear c6
                      try clear p6
                      try clear c7
                      try clear c7b0
                      try clear c7b1
                      try clear c8
                      try clear c8b0
                      try clear c13
                      try clear c13b0
                      try clear c13b1
                      try clear c15
                      try clear c15b0
                      try clear c16
                      try clear c16b0
                      try clear c17
                      try clear c17b0
                      try clear p18
                      try clear q18
                      try clear hx18
                      try clear hf18
                      try clear hx18_0
                      try clear p18
                      try clear p2
                      try clear p6
                      try clear q18
                      obtain ⟨x6_2, x7_2, x9_2, rfl, HA, HK2, HO_6, HO_7, HB⟩ := hrel
                      have hl6_2 := (Kd.R_reads' HO_6.out).1
                      rw [hl6_2] at HO_6
                      (try simp only [hl6_2])
                      (try simp only [hl6_2] at HO_7)
                      cases gk with
                      | zero => exact absurd HA.out (by simp [spec_FewestStrips.l1])
                      | succ k2 =>
                        have H := HA.out
                        clear HA
                        simp only [spec_FewestStrips.l1] at H
                        by_cases c21 : x9_2 < (l0.length : Int)
                        · rw [if_pos c21] at H
                          have c21b0 : decide (x9_2 < (l0.length : Int)) = true := decide_eq_true c21
                          clear c21
                          by_cases c22 : 0 ≤ x9_2
                          · rw [if_pos c22] at H
                            have c22b0 := eq_true c22
                            have c22b1 : decide (0 ≤ x9_2) = true := decide_eq_true c22
                            clear c22
                            obtain ⟨ji23, hji23⟩ : ∃ j_ : Int, (shr .i64 x8_1 x9_2) = j_ := ⟨_, rfl⟩
                            replace H : (if (Go.bits .and .i64 (ji23) 1) = 0 then (spec_FewestStrips.l1 k2 l0 a1 (l0.length : Int) x6_2 x7_2 x8_1 (wrap64 (x9_2 + 1))) else (if 0 ≤ (wrap64 (x8_1 - (shl .i64 1 x9_2))) then (if (wrap64 (x8_1 - (shl .i64 1 x9_2))) < (x6_2.length : Int) then (if (wrap64 (x8_1 - (shl .i64 1 x9_2))) < (x7_2.length : Int) then (if x9_2 < (l0.length : Int) then (if (wrap64 ((rd x7_2 (wrap64 (x8_1 - (shl .i64 1 x9_2)))) + (rd l0 x9_2))) > a1 then (spec_FewestStrips.j2 k2 l0 a1 (l0.length : Int) x6_2 x7_2 x8_1 x9_2 (rd x6_2 (wrap64 (x8_1 - (shl .i64 1 x9_2)))) (wrap64 ((rd x7_2 (wrap64 (x8_1 - (shl .i64 1 x9_2)))) + (rd l0 x9_2))) true) else (spec_FewestStrips.j2 k2 l0 a1 (l0.length : Int) x6_2 x7_2 x8_1 x9_2 (rd x6_2 (wrap64 (x8_1 - (shl .i64 1 x9_2)))) (wrap64 ((rd x7_2 (wrap64 (x8_1 - (shl .i64 1 x9_2)))) + (rd l0 x9_2))) ((wrap64 (x8_1 - (shl .i64 1 x9_2))) == 0))) else (none)) else (none)) else (none)) else (none))) = some r := by first | (rw [hji23] at H; exact H) | (simp only [hji23] at H ⊢; exact H)
                            have hji23_ : (x8_1 / 2 ^ min x9_2.toNat 64) = ji23 := hji23
                            have hji23z : x9_2 ≤ 64 → (x8_1 / 2 ^ x9_2.toNat) = ji23 := shr_small hji23
                            by_cases c24 : (Go.bits .and .i64 (ji23) 1) = 0
                            · rw [if_pos c24] at H
                              have c24b0 : ((Go.bits .and .i64 (ji23) 1) == 0) = true := beq_iff_eq.mpr c24
                              have c24b1 : ((Go.bits .and .i64 (ji23) 1) != 0) = false := bne_eq_false_iff_eq.mpr c24
                              clear c24
                              have H' := Aside0.mk H
                              clear H
                              go_wp2
                              repeat (go_quiet (fail); try go_wp2)
                              (try simp only [← hl6_2])
                              go_roundg k2
                              case measure => have := HK1.out; have := HK2.out; omega
                              case rel => exact ⟨(x6_2), (x7_2), (wrap64 (x9_2 + 1)), (by first | rfl | (simp; done) | (simp [*]; done)), H', ⟨by have := HK1.out; have := HK2.out; omega⟩, ⟨by (try simp only [hl6_2]); (with_reducible repeat (first | apply Kd.R_alloc | apply Kd.R_drewN | apply Kd.R_drew)); exact HO_6.out⟩, ⟨by (try simp only [hl6_2]); (with_reducible repeat (first | apply Kd.R_alloc | apply Kd.R_drewN | apply Kd.R_drew)); exact HO_7.out⟩, ⟨by repeat (first | (with_reducible first | exact HB.out | apply below_alloc | apply pw_below_drewN | apply below_drew1) | exact HB.out)⟩⟩
                            · rw [if_neg c24] at H
                              have c24b0 : ((Go.bits .and .i64 (ji23) 1) == 0) = false := beq_eq_false_iff_ne.mpr c24
                              have c24b1 : ((Go.bits .and .i64 (ji23) 1) != 0) = true := bne_iff_ne.mpr c24
                              have c25b0 := eq_true (of_decide_eq_true (by first | (with_reducible assumption) | assumption) : 0 ≤ x9_2)
                              obtain ⟨ji26, hji26⟩ : ∃ j_ : Int, (shl .i64 1 x9_2) = j_ := ⟨_, rfl⟩
                              replace H : (if 0 ≤ (wrap64 (x8_1 - (ji26))) then (if (wrap64 (x8_1 - (ji26))) < (x6_2.length : Int) then (if (wrap64 (x8_1 - (ji26))) < (x7_2.length : Int) then (if x9_2 < (l0.length : Int) then (if (wrap64 ((rd x7_2 (wrap64 (x8_1 - (ji26)))) + (rd l0 x9_2))) > a1 then (spec_FewestStrips.j2 k2 l0 a1 (l0.length : Int) x6_2 x7_2 x8_1 x9_2 (rd x6_2 (wrap64 (x8_1 - (ji26)))) (wrap64 ((rd x7_2 (wrap64 (x8_1 - (ji26)))) + (rd l0 x9_2))) true) else (spec_FewestStrips.j2 k2 l0 a1 (l0.length : Int) x6_2 x7_2 x8_1 x9_2 (rd x6_2 (wrap64 (x8_1 - (ji26)))) (wrap64 ((rd x7_2 (wrap64 (x8_1 - (ji26)))) + (rd l0 x9_2))) ((wrap64 (x8_1 - (ji26))) == 0))) else (none)) else (none)) else (none)) else (none)) = some r := by first | (rw [hji26] at H; exact H) | (simp only [hji26] at H ⊢; exact H)
                              have hji26_ : (IntKind.i64.wrap (1 * 2 ^ min x9_2.toNat 64)) = ji26 := hji26
                              have hji26z : x9_2 ≤ 64 → (IntKind.i64.wrap (1 * 2 ^ x9_2.toNat)) = ji26 := shl_small hji26
                              have hji26u : (IntKind.i64.wrap (2 ^ min x9_2.toNat 64)) = ji26 := by have h_ := hji26_; rw [Int.one_mul] at h_; exact h_
                              have hji26v : x9_2 ≤ 64 → (IntKind.i64.wrap (2 ^ x9_2.toNat)) = ji26 := fun hle_ => by have h_ := hji26z hle_; rw [Int.one_mul] at h_; exact h_
                              have hji26y : (wrap64 (1 * 2 ^ min x9_2.toNat 64)) = ji26 := (i64_w _).symm.trans hji26_
                              have hji26x : x9_2 ≤ 64 → (wrap64 (1 * 2 ^ x9_2.toNat)) = ji26 := fun h_ => (i64_w _).symm.trans (hji26z h_)
                              obtain ⟨ji27, hji27⟩ : ∃ j_ : Int, (wrap64 (x8_1 - (ji26))) = j_ := ⟨_, rfl⟩
                              replace H : (if 0 ≤ (ji27) then (if (ji27) < (x6_2.length : Int) then (if (ji27) < (x7_2.length : Int) then (if x9_2 < (l0.length : Int) then (if (wrap64 ((rd x7_2 (ji27)) + (rd l0 x9_2))) > a1 then (spec_FewestStrips.j2 k2 l0 a1 (l0.length : Int) x6_2 x7_2 x8_1 x9_2 (rd x6_2 (ji27)) (wrap64 ((rd x7_2 (ji27)) + (rd l0 x9_2))) true) else (spec_FewestStrips.j2 k2 l0 a1 (l0.length : Int) x6_2 x7_2 x8_1 x9_2 (rd x6_2 (ji27)) (wrap64 ((rd x7_2 (ji27)) + (rd l0 x9_2))) ((ji27) == 0))) else (none)) else (none)) else (none)) else (none)) = some r := by first | (rw [hji27] at H; exact H) | (simp only [hji27] at H ⊢; exact H)
                              have hji27w : (IntKind.i64.wrap (x8_1 - (ji26))) = ji27 := (i64_w _).trans hji27
                              by_cases c28 : 0 ≤ (ji27)
                              · rw [if_pos c28] at H
                                have c28b0 : decide (0 ≤ (ji27)) = true := decide_eq_true c28
                                clear c28
                                by_cases c29 : (ji27) < (x6_2.length : Int)
                                · rw [if_pos c29] at H
                                  have c29b0 : decide ((ji27) < (x6_2.length : Int)) = true := decide_eq_true c29
                                  clear c29
                                  by_cases c30 : (ji27) < (x7_2.length : Int)
                                  · rw [if_pos c30] at H
                                    have c30b0 : decide ((ji27) < (x7_2.length : Int)) = true := decide_eq_true c30
                                    clear c30
                                    by_cases c31 : x9_2 < (l0.length : Int)
                                    · rw [if_pos c31] at H
                                      have c31b0 : decide (x9_2 < (l0.length : Int)) = true := decide_eq_true c31
                                      clear c31
                                      have HC32 := Aside0.mk H
                                      clear H
                                      have p416 : 0 ≤ ((ji27) : Int) := of_decide_eq_true (by first | (with_reducible assumption) | assumption)
                                      have q416 : (ji27) < (x6_2.length : Int) := of_decide_eq_true (by first | (with_reducible assumption) | assumption)
                                      obtain ⟨ad416, e416, hx416_0⟩ := Kd.at_int (Kd.R_reads' HO_6.out).2.2 (ji27) p416 q416
                                      obtain rfl : (⟨go18, 0, none⟩ : Addr) = ad416 := (by injection e416)
                                      (first | simp only [add_plain] at hx416_0 | simp only [add_at] at hx416_0 | simp only [Addr.add, Nat.zero_add] at hx416_0 | skip)
                                      replace p416 := eq_true p416
                                      replace q416 := eq_true q416
                                      obtain ⟨Ao33, co33, eo33⟩ := Kd.R_slice HO_7.out
                                      subst eo33
                                      have p417 : 0 ≤ ((ji27) : Int) := of_decide_eq_true (by first | (with_reducible assumption) | assumption)
                                      have q417 : (ji27) < (x7_2.length : Int) := of_decide_eq_true (by first | (with_reducible assumption) | assumption)
                                      obtain ⟨ad417, e417, hx417_0⟩ := Kd.at_int (Kd.R_reads' HO_7.out).2.2 (ji27) p417 q417
                                      cases e417
                                      replace p417 := eq_true p417
                                      replace q417 := eq_true q417
                                      have p418 : 0 ≤ (x9_2 : Int) := of_decide_eq_true (by first | (with_reducible assumption) | assumption)
                                      have q418 : x9_2 < (l0.length : Int) := of_decide_eq_true (by first | (with_reducible assumption) | assumption)
                                      obtain ⟨ad418, e418, hx418_0⟩ := Kd.at_int HR0.out x9_2 p418 q418
                                      cases e418
                                      replace hx418_0 := (HB.out.cell (World.block_lt_of_cell? w _ hx418_0)).trans hx418_0
                                      replace p418 := eq_true p418
                                      replace q418 := eq_true q418
                                      go_upto_region 17 with (fail)
                                      repeat (go_quiet (fail); go_upto_region 17 with (fail))
                                      go_cut [69] (fun v69 wc => ∃ (kq : Nat) (x69_31 : Bool), v69 = .bool x69_31 ∧ Aside0 (spec_FewestStrips.j2 kq l0 a1 (l0.length : Int) x6_2 x7_2 x8_1 x9_2 (rd x6_2 (ji27)) (wrap64 ((rd x7_2 (ji27)) + (rd l0 x9_2))) x69_31 = some r) ∧ Aside0 (kq ≤ k2) ∧ Aside0 (Kd.R (Kd.int .i64) 3 wc w.heap.size (fun k_ => some k_ ≠ ((.slice (some ad417) x7_2.length co33) : Value).ownBlock) (.slice (some ⟨go18, 0, none⟩) x6_2.length co18) x6_2) ∧ Aside0 (Kd.R (Kd.int .i64) 3 wc w.heap.size (fun k_ => some k_ ≠ ((.slice (some ⟨go18, 0, none⟩) x6_2.length co18) : Value).ownBlock) (.slice (some ad417) x7_2.length co33) x7_2) ∧ Aside0 (Below w.heap.size w wc))
                                      case first =>
                                        have H := HC32.out
                                        clear HC32
                                        by_cases c34 : (wrap64 ((rd x7_2 (ji27)) + (rd l0 x9_2))) > a1
                                        · rw [if_pos c34] at H
                                          have c34b0 : decide (a1 < (wrap64 ((rd x7_2 (ji27)) + (rd l0 x9_2)))) = true := decide_eq_true c34
                                          clear c34
                                          (first | rw [c34b0] | (simp only [i64_w, i32_w]; rw [c34b0]) | skip)
                                          have H' := Aside0.mk H
                                          clear H
                                          go_wp2
                                          repeat (go_quiet (fail); try go_wp2)
                                          go_meet
                                          case rel => exact ⟨_, (true), (by first | rfl | (simp; done) | (simp [*]; done)), H', ⟨by have := HK1.out; have := HK2.out; first | omega | exact Nat.le_refl _⟩, ⟨by (try simp only [hl6_2]); (with_reducible repeat (first | apply Kd.R_alloc | apply Kd.R_drewN | apply Kd.R_drew)); exact HO_6.out⟩, ⟨by (try simp only [hl6_2]); (with_reducible repeat (first | apply Kd.R_alloc | apply Kd.R_drewN | apply Kd.R_drew)); exact HO_7.out⟩, ⟨by repeat (first | (with_reducible first | exact HB.out | apply below_alloc | apply pw_below_drewN | apply below_drew1) | exact HB.out)⟩⟩
                                        · rw [if_neg c34] at H
                                          have c34b0 : decide (a1 < (wrap64 ((rd x7_2 (ji27)) + (rd l0 x9_2)))) = false := decide_eq_false c34
                                          clear c34
                                          (first | rw [c34b0] | (simp only [i64_w, i32_w]; rw [c34b0]) | skip)
                                          have H' := Aside0.mk H
                                          clear H
                                          go_wp2
                                          repeat (go_quiet (fail); try go_wp2)
                                          go_meet
                                          case rel => exact ⟨_, (((ji27) == 0)), (by first | rfl | (simp; done) | (simp only [← hji27] <;> (first | rfl | simp)) | (simp [*]; done)), H', ⟨by have := HK1.out; have := HK2.out; first | omega | exact Nat.le_refl _⟩, ⟨by (try simp only [hl6_2]); (with_reducible repeat (first | apply Kd.R_alloc | apply Kd.R_drewN | apply Kd.R_drew)); exact HO_6.out⟩, ⟨by (try simp only [hl6_2]); (with_reducible repeat (first | apply Kd.R_alloc | apply Kd.R_drewN | apply Kd.R_drew)); exact HO_7.out⟩, ⟨by repeat (first | (with_reducible first | exact HB.out | apply below_alloc | apply pw_below_drewN | apply below_drew1) | exact HB.out)⟩⟩
                                      case rest =>
                                        clear HC32
                                        try clear c1
                                        try clear p1
                                        try clear q1
                                        try clear hx1
                                        try clear c2
                                        try clear p2
                                        try clear c3
                                        try clear c4
                                        try clear p4
                                        try clear q4
                                        try clear hx4
                                        try clear c6
                                        try clear p6
                                        try clear c7
                                        try clear c7b0
                                        try clear c7b1
                                        try clear c8
                                        try clear c8b0
                                        try clear c13
                                        try clear c13b0
                                        try clear c13b1
                                        try clear c15
                                        try clear c15b0
                                        try clear c16
                                        try clear c16b0
                                        try clear c17
                                        try clear c17b0
                                        try clear p18
                                        try clear q18
                                        try clear hx18
                                        try clear hf18
                                        try clear c21
                                        try clear c21b0
                                        try clear c22
                                        try clear c22b0
                                        try clear c22b1
                                        try clear c24
                                        try clear c24b0
                                        try clear c24b1
                                        try clear c25
                                        try clear c25b0
                                        try clear c28
                                        try clear c28b0
                                        try clear c29
                                        try clear c29b0
                                        try clear c30
                                        try clear c30b0
                                        try clear c31
                                        try clear c31b0
                                        try clear c34
                                        try clear c34b0
                                        try clear hx18_0
                                        try clear hx416_0
                                        try clear hx417_0
                                        try clear hx418_0
                                        try clear p1
                                        try clear p18
                                        try clear p2
                                        try clear p416
                                        try clear p417
                                        try clear p418
                                        try clear p6
                                        try clear q1
                                        try clear q18
                                        try clear q416
                                        try clear q417
                                        try clear q418
                                        obtain ⟨kq, x69_31, rfl, HA, HJ31, HO_6, HO_7, HB⟩ := hcut
                                        cases kq with
                                        | zero => exact absurd HA.out (by simp [spec_FewestStrips.j2])
                                        | succ kj31 =>
                                          have H := HA.out
                                          clear HA
                                          simp only [spec_FewestStrips.j2] at H
                                          by_cases c35 : x69_31 = true
                                          · subst c35
                                            have H1 : (if 0 ≤ x9_2 then (if x9_2 < (l0.length : Int) then (if 0 ≤ x8_1 then (if x8_1 < (x6_2.length : Int) then (if (wrap64 ((rd x6_2 (ji27)) + 1)) < (rd x6_2 x8_1) then (if x8_1 < (x7_2.length : Int) then (spec_FewestStrips.l1 kj31 l0 a1 (l0.length : Int) (x6_2.set (x8_1 : Int).toNat (wrap64 ((rd x6_2 (ji27)) + 1))) (x7_2.set (x8_1 : Int).toNat (rd l0 x9_2)) x8_1 (wrap64 (x9_2 + 1))) else (none)) else (if (wrap64 ((rd x6_2 (ji27)) + 1)) = (rd x6_2 x8_1) then (if x8_1 < (x7_2.length : Int) then (if (rd l0 x9_2) < (rd x7_2 x8_1) then (spec_FewestStrips.l1 kj31 l0 a1 (l0.length : Int) (x6_2.set (x8_1 : Int).toNat (wrap64 ((rd x6_2 (ji27)) + 1))) (x7_2.set (x8_1 : Int).toNat (rd l0 x9_2)) x8_1 (wrap64 (x9_2 + 1))) else (spec_FewestStrips.l1 kj31 l0 a1 (l0.length : Int) x6_2 x7_2 x8_1 (wrap64 (x9_2 + 1)))) else (none)) else (spec_FewestStrips.l1 kj31 l0 a1 (l0.length : Int) x6_2 x7_2 x8_1 (wrap64 (x9_2 + 1))))) else (none)) else (none)) else (none)) else (none)) = some r := by rw [if_pos rfl] at H; exact H
                                            clear H
                                            have H := H1
                                            clear H1
                                            by_cases c36 : 0 ≤ x9_2
                                            · rw [if_pos c36] at H
                                              have c36b0 : decide (0 ≤ x9_2) = true := decide_eq_true c36
                                              clear c36
                                              by_cases c37 : x9_2 < (l0.length : Int)
                                              · rw [if_pos c37] at H
                                                have c37b0 : decide (x9_2 < (l0.length : Int)) = true := decide_eq_true c37
                                                clear c37
                                                by_cases c38 : 0 ≤ x8_1
                                                · rw [if_pos c38] at H
                                                  have c38b0 : decide (0 ≤ x8_1) = true := decide_eq_true c38
                                                  clear c38
                                                  by_cases c39 : x8_1 < (x6_2.length : Int)
                                                  · rw [if_pos c39] at H
                                                    have c39b0 : decide (x8_1 < (x6_2.length : Int)) = true := decide_eq_true c39
                                                    clear c39
                                                    by_cases c40 : (wrap64 ((rd x6_2 (ji27)) + 1)) < (rd x6_2 x8_1)
                                                    · rw [if_pos c40] at H
                                                      have c40b0 : decide ((wrap64 ((rd x6_2 (ji27)) + 1)) < (rd x6_2 x8_1)) = true := decide_eq_true c40
                                                      clear c40
                                                      obtain ⟨y421, hy421⟩ : ∃ y_ : List Int, y_ = (x6_2.set (x8_1 : Int).toNat (wrap64 ((rd x6_2 (ji27)) + 1))) := ⟨_, rfl⟩
                                                      replace H : (if x8_1 < (x7_2.length : Int) then (spec_FewestStrips.l1 kj31 l0 a1 (l0.length : Int) y421 (x7_2.set (x8_1 : Int).toNat (rd l0 x9_2)) x8_1 (wrap64 (x9_2 + 1))) else (none)) = some r := by first | (rw [hy421]; with_reducible exact H) | (have H2_ := (Option.bind_some _ _).symm.trans H; rw [hy421]; with_reducible exact H2_) | (have H2_ := (Option.bind_some _ _).symm.trans H; with_reducible exact H2_) | with_reducible exact H | (rw [hy421]; exact H) | exact H
                                                      have Ny421 := Aside0.mk hy421
                                                      clear hy421
                                                      by_cases c42 : x8_1 < (x7_2.length : Int)
                                                      · rw [if_pos c42] at H
                                                        have c42b0 : decide (x8_1 < (x7_2.length : Int)) = true := decide_eq_true c42
                                                        clear c42
                                                        obtain ⟨y422, hy422⟩ : ∃ y_ : List Int, y_ = (x7_2.set (x8_1 : Int).toNat (rd l0 x9_2)) := ⟨_, rfl⟩
                                                        replace H : (spec_FewestStrips.l1 kj31 l0 a1 (l0.length : Int) y421 y422 x8_1 (wrap64 (x9_2 + 1))) = some r := by first | (rw [hy422]; with_reducible exact H) | (have H2_ := (Option.bind_some _ _).symm.trans H; rw [hy422]; with_reducible exact H2_) | (have H2_ := (Option.bind_some _ _).symm.trans H; with_reducible exact H2_) | with_reducible exact H | (rw [hy422]; exact H) | exact H
                                                        have Ny422 := Aside0.mk hy422
                                                        clear hy422
                                                        have H' := Aside0.mk H
                                                        clear H
                                                        have p419 : 0 ≤ (x9_2 : Int) := of_decide_eq_true (by first | (with_reducible assumption) | assumption)
                                                        have q419 : x9_2 < (l0.length : Int) := of_decide_eq_true (by first | (with_reducible assumption) | assumption)
                                                        obtain ⟨ad419, e419, hx419_0⟩ := Kd.at_int HR0.out x9_2 p419 q419
                                                        obtain rfl : ad418 = ad419 := (by injection e419)
                                                        replace hx419_0 := (HB.out.cell (World.block_lt_of_cell? w _ hx419_0)).trans hx419_0
                                                        replace p419 := eq_true p419
                                                        replace q419 := eq_true q419
                                                        have p420 : 0 ≤ (x8_1 : Int) := of_decide_eq_true (by first | (with_reducible assumption) | assumption)
                                                        have q420 : x8_1 < (x6_2.length : Int) := of_decide_eq_true (by first | (with_reducible assumption) | assumption)
                                                        obtain ⟨ad420, e420, hx420_0⟩ := Kd.at_int (Kd.R_reads' HO_6.out).2.2 x8_1 p420 q420
                                                        obtain rfl : (⟨go18, 0, none⟩ : Addr) = ad420 := (by injection e420)
                                                        (first | simp only [add_plain] at hx420_0 | simp only [add_at] at hx420_0 | simp only [Addr.add, Nat.zero_add] at hx420_0 | skip)
                                                        replace p420 := eq_true p420
                                                        replace q420 := eq_true q420
                                                        have p41 : 0 ≤ (x8_1 : Int) := of_decide_eq_true (by first | (with_reducible assumption) | assumption)
                                                        have q41 : (x8_1 : Int) < ((x6_2.length : Int) : Int) := of_decide_eq_true (by first | (with_reducible assumption) | assumption)
                                                        obtain ⟨hx41_0, hf41_0⟩ := Kd.R_celln 0 HO_6.out (x8_1 : Int) p41 q41
                                                        replace p41 := eq_true p41
                                                        replace q41 := eq_true q41
                                                        have HP44 := Kd.R_putg HO_6.out (x8_1 : Int) (wrap64 ((rd x6_2 (ji27)) + 1))
                                                        go_wp2_with (first | ((with_reducible refine gate_store (t := 3) (p := 101) rfl ?_); (try (rw [drewN_self wc]; generalize hq_ : World.drewN wc _ = wc; have n0_ := Aside0.mk (Kd.R_at hq_ HO_6.out); have n1_ := Aside0.mk (Kd.R_at hq_ HO_7.out); have n2_ := Aside0.mk (below_at hq_ HB.out); clear hq_ HO_6 HO_7 HB; have HO_6 := n0_; have HO_7 := n1_; have HB := n2_; clear n0_ n1_ n2_; (try (have HP44 := Kd.R_putg HO_6.out (x8_1 : Int) (wrap64 ((rd x6_2 (ji27)) + 1)))))); refine store_event (t := 3) (p := 101) (v := ?vo_w45) (w1 := (wc.setCell ⟨go18, (x8_1 : Int).toNat, none⟩ (.int .i64 (wrap64 ((rd x6_2 (ji27)) + 1))))) ?hg ?ho ?hn ?hr ?_; (case ho => rfl); (case hg => rfl); (case hn => rfl); (case hr => first | (go_simp; done) | (go_simp; rfl)); intro w45 hw; have hg : wc.grownBy w45 (some go18) := (by rw [hw]; exact HP44.2); have hp_ : Kd.R (Kd.int .i64) 3 w45 w.heap.size (fun k_ => some k_ ≠ (.slice (some ad417) x7_2.length co33 : Value).ownBlock) (.slice (some ⟨go18, 0, none⟩) x6_2.length co18) y421 := (by rw [hw, Ny421.out]; exact HP44.1); clear HP44; have n0_ := Aside0.mk (hp_); have n1_ := Aside0.mk (Kd.R_after (v := (.slice (some ⟨go18, 0, none⟩) x6_2.length co18)) (v1 := (.slice (some ⟨go18, 0, none⟩) x6_2.length co18)) (ok := (fun _ => True)) (by (with_reducible repeat (first | apply Kd.R_alloc | apply Kd.R_drewN | apply Kd.R_drew)); exact Kd.R_mono HO_7.out (fun _ hk => ⟨trivial, hk⟩)) hg (.inl rfl)); have n2_ := Aside0.mk ((by rw [hw]; exact below_set (HB.out) GB18.out : Below w.heap.size w w45)); clear HO_6; clear HO_7; clear HB; have HO_6 := n0_; have HO_7 := n1_; have HB := n2_; clear n0_ n1_ n2_; clear hg hw hp_; have p43 : 0 ≤ (x8_1 : Int) := of_decide_eq_true (by first | (with_reducible assumption) | assumption); have q43 : (x8_1 : Int) < ((x7_2.length : Int) : Int) := of_decide_eq_true (by first | (with_reducible assumption) | assumption); obtain ⟨go43, co43, eo43, gb43, gl43, cl43, HG43⟩ := Kd.R_form HO_7.out (by omega); (first | cases eo43 | (injection eo43 with ea_ en_ ec_; (first | subst ea_ | (injection ea_ with ea_; subst ea_)); subst ec_; clear en_)); have GB43 := Aside0.mk gb43; have GG43 := Aside0.mk HG43; clear gb43 gl43 HG43; (first | simp only [add_plain] at hx417_0 | skip); obtain ⟨hx43_0, hf43_0⟩ := Kd.R_celln 0 HO_7.out (x8_1 : Int) p43 q43; replace p43 := eq_true p43; replace q43 := eq_true q43; have n_ := Aside0.mk (Kd.R_mono (ok' := (fun k_ => some k_ ≠ (.slice (some ⟨go18, 0, none⟩) x6_2.length co18 : Value).ownBlock)) HO_7.out (fun k_ hk => hk.2)); clear HO_7; have HO_7 := n_; clear n_; obtain ⟨hy46_, hz46_⟩ := Kd.R_celln 0 HO_7.out (x8_1 : Int) (of_decide_eq_true (by first | (with_reducible assumption) | assumption)) (of_decide_eq_true (by first | (with_reducible assumption) | assumption)); have HP46 := Kd.R_putg HO_7.out (x8_1 : Int) (rd l0 x9_2)) | ((with_reducible refine gate_store (t := 3) (p := 105) rfl ?_); (try (rw [drewN_self w45]; generalize hq_ : World.drewN w45 _ = w45; have n0_ := Aside0.mk (Kd.R_at hq_ HO_6.out); have n1_ := Aside0.mk (Kd.R_at hq_ HO_7.out); have n2_ := Aside0.mk (below_at hq_ HB.out); clear hq_ HO_6 HO_7 HB; have HO_6 := n0_; have HO_7 := n1_; have HB := n2_; clear n0_ n1_ n2_; (try (have n_ := Aside0.mk (Kd.R_mono (ok' := (fun k_ => some k_ ≠ (.slice (some ⟨go18, 0, none⟩) x6_2.length co18 : Value).ownBlock)) HO_7.out (fun k_ hk => hk.2)); clear HO_7; have HO_7 := n_; clear n_)); (try (obtain ⟨hy46_, hz46_⟩ := Kd.R_celln 0 HO_7.out (x8_1 : Int) (of_decide_eq_true (by first | (with_reducible assumption) | assumption)) (of_decide_eq_true (by first | (with_reducible assumption) | assumption)))); (try (have HP46 := Kd.R_putg HO_7.out (x8_1 : Int) (rd l0 x9_2))))); refine store_event (t := 3) (p := 105) (v := ?vo_w47) (w1 := (w45.setCell ⟨go43, (x8_1 : Int).toNat, none⟩ (.int .i64 (rd l0 x9_2)))) ?hg ?ho ?hn ?hr ?_; (case ho => rfl); (case hg => rfl); (case hn => rfl); (case hr => first | (go_simp; done) | (go_simp; rfl)); intro w47 hw; have hg : w45.grownBy w47 (some go43) := (by rw [hw]; exact HP46.2); have hp_ : Kd.R (Kd.int .i64) 3 w47 w.heap.size (fun k_ => some k_ ≠ (.slice (some ⟨go18, 0, none⟩) x6_2.length co18 : Value).ownBlock) (.slice (some ⟨go43, 0, none⟩) x7_2.length co33) y422 := (by rw [hw, Ny422.out]; exact HP46.1); clear HP46; have n0_ := Aside0.mk (Kd.R_after (v := (.slice (some ⟨go43, 0, none⟩) x7_2.length co33)) (v1 := (.slice (some ⟨go43, 0, none⟩) x7_2.length co33)) (ok := (fun _ => True)) (by (with_reducible repeat (first | apply Kd.R_alloc | apply Kd.R_drewN | apply Kd.R_drew)); exact Kd.R_mono HO_6.out (fun _ hk => ⟨trivial, hk⟩)) hg (.inl rfl)); have n1_ := Aside0.mk (hp_); have n2_ := Aside0.mk ((by rw [hw]; exact below_set (HB.out) GB43.out : Below w.heap.size w w47)); clear HO_6; clear HO_7; clear HB; have HO_6 := n0_; have HO_7 := n1_; have HB := n2_; clear n0_ n1_ n2_; clear hg hw hp_))
                                                        repeat (go_quiet (first | ((with_reducible refine gate_store (t := 3) (p := 101) rfl ?_); (try (rw [drewN_self wc]; generalize hq_ : World.drewN wc _ = wc; have n0_ := Aside0.mk (Kd.R_at hq_ HO_6.out); have n1_ := Aside0.mk (Kd.R_at hq_ HO_7.out); have n2_ := Aside0.mk (below_at hq_ HB.out); clear hq_ HO_6 HO_7 HB; have HO_6 := n0_; have HO_7 := n1_; have HB := n2_; clear n0_ n1_ n2_; (try (have HP44 := Kd.R_putg HO_6.out (x8_1 : Int) (wrap64 ((rd x6_2 (ji27)) + 1)))))); refine store_event (t := 3) (p := 101) (v := ?vo_w45) (w1 := (wc.setCell ⟨go18, (x8_1 : Int).toNat, none⟩ (.int .i64 (wrap64 ((rd x6_2 (ji27)) + 1))))) ?hg ?ho ?hn ?hr ?_; (case ho => rfl); (case hg => rfl); (case hn => rfl); (case hr => first | (go_simp; done) | (go_simp; rfl)); intro w45 hw; have hg : wc.grownBy w45 (some go18) := (by rw [hw]; exact HP44.2); have hp_ : Kd.R (Kd.int .i64) 3 w45 w.heap.size (fun k_ => some k_ ≠ (.slice (some ad417) x7_2.length co33 : Value).ownBlock) (.slice (some ⟨go18, 0, none⟩) x6_2.length co18) y421 := (by rw [hw, Ny421.out]; exact HP44.1); clear HP44; have n0_ := Aside0.mk (hp_); have n1_ := Aside0.mk (Kd.R_after (v := (.slice (some ⟨go18, 0, none⟩) x6_2.length co18)) (v1 := (.slice (some ⟨go18, 0, none⟩) x6_2.length co18)) (ok := (fun _ => True)) (by (with_reducible repeat (first | apply Kd.R_alloc | apply Kd.R_drewN | apply Kd.R_drew)); exact Kd.R_mono HO_7.out (fun _ hk => ⟨trivial, hk⟩)) hg (.inl rfl)); have n2_ := Aside0.mk ((by rw [hw]; exact below_set (HB.out) GB18.out : Below w.heap.size w w45)); clear HO_6; clear HO_7; clear HB; have HO_6 := n0_; have HO_7 := n1_; have HB := n2_; clear n0_ n1_ n2_; clear hg hw hp_; have p43 : 0 ≤ (x8_1 : Int) := of_decide_eq_true (by first | (with_reducible assumption) | assumption); have q43 : (x8_1 : Int) < ((x7_2.length : Int) : Int) := of_decide_eq_true (by first | (with_reducible assumption) | assumption); obtain ⟨go43, co43, eo43, gb43, gl43, cl43, HG43⟩ := Kd.R_form HO_7.out (by omega); (first | cases eo43 | (injection eo43 with ea_ en_ ec_; (first | subst ea_ | (injection ea_ with ea_; subst ea_)); subst ec_; clear en_)); have GB43 := Aside0.mk gb43; have GG43 := Aside0.mk HG43; clear gb43 gl43 HG43; (first | simp only [add_plain] at hx417_0 | skip); obtain ⟨hx43_0, hf43_0⟩ := Kd.R_celln 0 HO_7.out (x8_1 : Int) p43 q43; replace p43 := eq_true p43; replace q43 := eq_true q43; have n_ := Aside0.mk (Kd.R_mono (ok' := (fun k_ => some k_ ≠ (.slice (some ⟨go18, 0, none⟩) x6_2.length co18 : Value).ownBlock)) HO_7.out (fun k_ hk => hk.2)); clear HO_7; have HO_7 := n_; clear n_; obtain ⟨hy46_, hz46_⟩ := Kd.R_celln 0 HO_7.out (x8_1 : Int) (of_decide_eq_true (by first | (with_reducible assumption) | assumption)) (of_decide_eq_true (by first | (with_reducible assumption) | assumption)); have HP46 := Kd.R_putg HO_7.out (x8_1 : Int) (rd l0 x9_2)) | ((with_reducible refine gate_store (t := 3) (p := 105) rfl ?_); (try (rw [drewN_self w45]; generalize hq_ : World.drewN w45 _ = w45; have n0_ := Aside0.mk (Kd.R_at hq_ HO_6.out); have n1_ := Aside0.mk (Kd.R_at hq_ HO_7.out); have n2_ := Aside0.mk (below_at hq_ HB.out); clear hq_ HO_6 HO_7 HB; have HO_6 := n0_; have HO_7 := n1_; have HB := n2_; clear n0_ n1_ n2_; (try (have n_ := Aside0.mk (Kd.R_mono (ok' := (fun k_ => some k_ ≠ (.slice (some ⟨go18, 0, none⟩) x6_2.length co18 : Value).ownBlock)) HO_7.out (fun k_ hk => hk.2)); clear HO_7; have HO_7 := n_; clear n_)); (try (obtain ⟨hy46_, hz46_⟩ := Kd.R_celln 0 HO_7.out (x8_1 : Int) (of_decide_eq_true (by first | (with_reducible assumption) | assumption)) (of_decide_eq_true (by first | (with_reducible assumption) | assumption)))); (try (have HP46 := Kd.R_putg HO_7.out (x8_1 : Int) (rd l0 x9_2))))); refine store_event (t := 3) (p := 105) (v := ?vo_w47) (w1 := (w45.setCell ⟨go43, (x8_1 : Int).toNat, none⟩ (.int .i64 (rd l0 x9_2)))) ?hg ?ho ?hn ?hr ?_; (case ho => rfl); (case hg => rfl); (case hn => rfl); (case hr => first | (go_simp; done) | (go_simp; rfl)); intro w47 hw; have hg : w45.grownBy w47 (some go43) := (by rw [hw]; exact HP46.2); have hp_ : Kd.R (Kd.int .i64) 3 w47 w.heap.size (fun k_ => some k_ ≠ (.slice (some ⟨go18, 0, none⟩) x6_2.length co18 : Value).ownBlock) (.slice (some ⟨go43, 0, none⟩) x7_2.length co33) y422 := (by rw [hw, Ny422.out]; exact HP46.1); clear HP46; have n0_ := Aside0.mk (Kd.R_after (v := (.slice (some ⟨go43, 0, none⟩) x7_2.length co33)) (v1 := (.slice (some ⟨go43, 0, none⟩) x7_2.length co33)) (ok := (fun _ => True)) (by (with_reducible repeat (first | apply Kd.R_alloc | apply Kd.R_drewN | apply Kd.R_drew)); exact Kd.R_mono HO_6.out (fun _ hk => ⟨trivial, hk⟩)) hg (.inl rfl)); have n1_ := Aside0.mk (hp_); have n2_ := Aside0.mk ((by rw [hw]; exact below_set (HB.out) GB43.out : Below w.heap.size w w47)); clear HO_6; clear HO_7; clear HB; have HO_6 := n0_; have HO_7 := n1_; have HB := n2_; clear n0_ n1_ n2_; clear hg hw hp_)); try go_wp2_with (first | ((with_reducible refine gate_store (t := 3) (p := 101) rfl ?_); (try (rw [drewN_self wc]; generalize hq_ : World.drewN wc _ = wc; have n0_ := Aside0.mk (Kd.R_at hq_ HO_6.out); have n1_ := Aside0.mk (Kd.R_at hq_ HO_7.out); have n2_ := Aside0.mk (below_at hq_ HB.out); clear hq_ HO_6 HO_7 HB; have HO_6 := n0_; have HO_7 := n1_; have HB := n2_; clear n0_ n1_ n2_; (try (have HP44 := Kd.R_putg HO_6.out (x8_1 : Int) (wrap64 ((rd x6_2 (ji27)) + 1)))))); refine store_event (t := 3) (p := 101) (v := ?vo_w45) (w1 := (wc.setCell ⟨go18, (x8_1 : Int).toNat, none⟩ (.int .i64 (wrap64 ((rd x6_2 (ji27)) + 1))))) ?hg ?ho ?hn ?hr ?_; (case ho => rfl); (case hg => rfl); (case hn => rfl); (case hr => first | (go_simp; done) | (go_simp; rfl)); intro w45 hw; have hg : wc.grownBy w45 (some go18) := (by rw [hw]; exact HP44.2); have hp_ : Kd.R (Kd.int .i64) 3 w45 w.heap.size (fun k_ => some k_ ≠ (.slice (some ad417) x7_2.length co33 : Value).ownBlock) (.slice (some ⟨go18, 0, none⟩) x6_2.length co18) y421 := (by rw [hw, Ny421.out]; exact HP44.1); clear HP44; have n0_ := Aside0.mk (hp_); have n1_ := Aside0.mk (Kd.R_after (v := (.slice (some ⟨go18, 0, none⟩) x6_2.length co18)) (v1 := (.slice (some ⟨go18, 0, none⟩) x6_2.length co18)) (ok := (fun _ => True)) (by (with_reducible repeat (first | apply Kd.R_alloc | apply Kd.R_drewN | apply Kd.R_drew)); exact Kd.R_mono HO_7.out (fun _ hk => ⟨trivial, hk⟩)) hg (.inl rfl)); have n2_ := Aside0.mk ((by rw [hw]; exact below_set (HB.out) GB18.out : Below w.heap.size w w45)); clear HO_6; clear HO_7; clear HB; have HO_6 := n0_; have HO_7 := n1_; have HB := n2_; clear n0_ n1_ n2_; clear hg hw hp_; have p43 : 0 ≤ (x8_1 : Int) := of_decide_eq_true (by first | (with_reducible assumption) | assumption); have q43 : (x8_1 : Int) < ((x7_2.length : Int) : Int) := of_decide_eq_true (by first | (with_reducible assumption) | assumption); obtain ⟨go43, co43, eo43, gb43, gl43, cl43, HG43⟩ := Kd.R_form HO_7.out (by omega); (first | cases eo43 | (injection eo43 with ea_ en_ ec_; (first | subst ea_ | (injection ea_ with ea_; subst ea_)); subst ec_; clear en_)); have GB43 := Aside0.mk gb43; have GG43 := Aside0.mk HG43; clear gb43 gl43 HG43; (first | simp only [add_plain] at hx417_0 | skip); obtain ⟨hx43_0, hf43_0⟩ := Kd.R_celln 0 HO_7.out (x8_1 : Int) p43 q43; replace p43 := eq_true p43; replace q43 := eq_true q43; have n_ := Aside0.mk (Kd.R_mono (ok' := (fun k_ => some k_ ≠ (.slice (some ⟨go18, 0, none⟩) x6_2.length co18 : Value).ownBlock)) HO_7.out (fun k_ hk => hk.2)); clear HO_7; have HO_7 := n_; clear n_; obtain ⟨hy46_, hz46_⟩ := Kd.R_celln 0 HO_7.out (x8_1 : Int) (of_decide_eq_true (by first | (with_reducible assumption) | assumption)) (of_decide_eq_true (by first | (with_reducible assumption) | assumption)); have HP46 := Kd.R_putg HO_7.out (x8_1 : Int) (rd l0 x9_2)) | ((with_reducible refine gate_store (t := 3) (p := 105) rfl ?_); (try (rw [drewN_self w45]; generalize hq_ : World.drewN w45 _ = w45; have n0_ := Aside0.mk (Kd.R_at hq_ HO_6.out); have n1_ := Aside0.mk (Kd.R_at hq_ HO_7.out); have n2_ := Aside0.mk (below_at hq_ HB.out); clear hq_ HO_6 HO_7 HB; have HO_6 := n0_; have HO_7 := n1_; have HB := n2_; clear n0_ n1_ n2_; (try (have n_ := Aside0.mk (Kd.R_mono (ok' := (fun k_ => some k_ ≠ (.slice (some ⟨go18, 0, none⟩) x6_2.length co18 : Value).ownBlock)) HO_7.out (fun k_ hk => hk.2)); clear HO_7; have HO_7 := n_; clear n_)); (try (obtain ⟨hy46_, hz46_⟩ := Kd.R_celln 0 HO_7.out (x8_1 : Int) (of_decide_eq_true (by first | (with_reducible assumption) | assumption)) (of_decide_eq_true (by first | (with_reducible assumption) | assumption)))); (try (have HP46 := Kd.R_putg HO_7.out (x8_1 : Int) (rd l0 x9_2))))); refine store_event (t := 3) (p := 105) (v := ?vo_w47) (w1 := (w45.setCell ⟨go43, (x8_1 : Int).toNat, none⟩ (.int .i64 (rd l0 x9_2)))) ?hg ?ho ?hn ?hr ?_; (case ho => rfl); (case hg => rfl); (case hn => rfl); (case hr => first | (go_simp; done) | (go_simp; rfl)); intro w47 hw; have hg : w45.grownBy w47 (some go43) := (by rw [hw]; exact HP46.2); have hp_ : Kd.R (Kd.int .i64) 3 w47 w.heap.size (fun k_ => some k_ ≠ (.slice (some ⟨go18, 0, none⟩) x6_2.length co18 : Value).ownBlock) (.slice (some ⟨go43, 0, none⟩) x7_2.length co33) y422 := (by rw [hw, Ny422.out]; exact HP46.1); clear HP46; have n0_ := Aside0.mk (Kd.R_after (v := (.slice (some ⟨go43, 0, none⟩) x7_2.length co33)) (v1 := (.slice (some ⟨go43, 0, none⟩) x7_2.length co33)) (ok := (fun _ => True)) (by (with_reducible repeat (first | apply Kd.R_alloc | apply Kd.R_drewN | apply Kd.R_drew)); exact Kd.R_mono HO_6.out (fun _ hk => ⟨trivial, hk⟩)) hg (.inl rfl)); have n1_ := Aside0.mk (hp_); have n2_ := Aside0.mk ((by rw [hw]; exact below_set (HB.out) GB43.out : Below w.heap.size w w47)); clear HO_6; clear HO_7; clear HB; have HO_6 := n0_; have HO_7 := n1_; have HB := n2_; clear n0_ n1_ n2_; clear hg hw hp_)))
                                                        (try simp only [← hl6_2])
                                                        go_roundg kj31
                                                        case measure => have := HK1.out; have := HK2.out; have := HJ31.out; omega
                                                        case rel => exact ⟨(y421), (y422), (wrap64 (x9_2 + 1)), (by first | rfl | (simp; done) | (simp [*]; done)), H', ⟨by have := HK1.out; have := HK2.out; have := HJ31.out; omega⟩, ⟨by (try simp only [hl6_2]); (with_reducible repeat (first | apply Kd.R_alloc | apply Kd.R_drewN | apply Kd.R_drew)); exact Kd.R_mono HO_6.out (fun _ hk => hk.2)⟩, ⟨by (try simp only [hl6_2]); (with_reducible repeat (first | apply Kd.R_alloc | apply Kd.R_drewN | apply Kd.R_drew)); exact HO_7.out⟩, ⟨by repeat (first | (with_reducible first | exact HB.out | apply below_alloc | apply pw_below_drewN | apply below_drew1) | exact HB.out)⟩⟩
                                                      · rw [if_neg c42] at H
                                                        exact absurd H (by simp)
                                                    · rw [if_neg c40] at H
                                                      have c40b0 : decide ((wrap64 ((rd x6_2 (ji27)) + 1)) < (rd x6_2 x8_1)) = false := decide_eq_false c40
                                                      clear c40
                                                      by_cases c48 : (wrap64 ((rd x6_2 (ji27)) + 1)) = (rd x6_2 x8_1)
                                                      · rw [if_pos c48] at H
                                                        have c48b0 : ((wrap64 ((rd x6_2 (ji27)) + 1)) == (rd x6_2 x8_1)) = true := beq_iff_eq.mpr c48
                                                        have c48b1 : ((wrap64 ((rd x6_2 (ji27)) + 1)) != (rd x6_2 x8_1)) = false := bne_eq_false_iff_eq.mpr c48
                                                        clear c48
                                                        by_cases c49 : x8_1 < (x7_2.length : Int)
                                                        · rw [if_pos c49] at H
                                                          have c49b0 : decide (x8_1 < (x7_2.length : Int)) = true := decide_eq_true c49
                                                          clear c49
                                                          by_cases c50 : (rd l0 x9_2) < (rd x7_2 x8_1)
                                                          · rw [if_pos c50] at H
                                                            have c50b0 : decide ((rd l0 x9_2) < (rd x7_2 x8_1)) = true := decide_eq_true c50
                                                            clear c50
                                                            obtain ⟨y425, hy425⟩ : ∃ y_ : List Int, y_ = (x6_2.set (x8_1 : Int).toNat (wrap64 ((rd x6_2 (ji27)) + 1))) := ⟨_, rfl⟩
                                                            replace H : (spec_FewestStrips.l1 kj31 l0 a1 (l0.length : Int) y425 (x7_2.set (x8_1 : Int).toNat (rd l0 x9_2)) x8_1 (wrap64 (x9_2 + 1))) = some r := by first | (rw [hy425]; with_reducible exact H) | (have H2_ := (Option.bind_some _ _).symm.trans H; rw [hy425]; with_reducible exact H2_) | (have H2_ := (Option.bind_some _ _).symm.trans H; with_reducible exact H2_) | with_reducible exact H | (rw [hy425]; exact H) | exact H
                                                            have Ny425 := Aside0.mk hy425
                                                            clear hy425
                                                            obtain ⟨y426, hy426⟩ : ∃ y_ : List Int, y_ = (x7_2.set (x8_1 : Int).toNat (rd l0 x9_2)) := ⟨_, rfl⟩
                                                            replace H : (spec_FewestStrips.l1 kj31 l0 a1 (l0.length : Int) y425 y426 x8_1 (wrap64 (x9_2 + 1))) = some r := by first | (rw [hy426]; with_reducible exact H) | (have H2_ := (Option.bind_some _ _).symm.trans H; rw [hy426]; with_reducible exact H2_) | (have H2_ := (Option.bind_some _ _).symm.trans H; with_reducible exact H2_) | with_reducible exact H | (rw [hy426]; exact H) | exact H
                                                            have Ny426 := Aside0.mk hy426
                                                            clear hy426
                                                            have H' := Aside0.mk H
                                                            clear H
                                                            have p419 : 0 ≤ (x9_2 : Int) := of_decide_eq_true (by first | (with_reducible assumption) | assumption)
                                                            have q419 : x9_2 < (l0.length : Int) := of_decide_eq_true (by first | (with_reducible assumption) | assumption)
                                                            obtain ⟨ad419, e419, hx419_0⟩ := Kd.at_int HR0.out x9_2 p419 q419
                                                            obtain rfl : ad418 = ad419 := (by injection e419)
                                                            replace hx419_0 := (HB.out.cell (World.block_lt_of_cell? w _ hx419_0)).trans hx419_0
                                                            replace p419 := eq_true p419
                                                            replace q419 := eq_true q419
                                                            have p420 : 0 ≤ (x8_1 : Int) := of_decide_eq_true (by first | (with_reducible assumption) | assumption)
                                                            have q420 : x8_1 < (x6_2.length : Int) := of_decide_eq_true (by first | (with_reducible assumption) | assumption)
                                                            obtain ⟨ad420, e420, hx420_0⟩ := Kd.at_int (Kd.R_reads' HO_6.out).2.2 x8_1 p420 q420
                                                            obtain rfl : (⟨go18, 0, none⟩ : Addr) = ad420 := (by injection e420)
                                                            (first | simp only [add_plain] at hx420_0 | simp only [add_at] at hx420_0 | simp only [Addr.add, Nat.zero_add] at hx420_0 | skip)
                                                            replace p420 := eq_true p420
                                                            replace q420 := eq_true q420
                                                            have p423 : 0 ≤ (x8_1 : Int) := of_decide_eq_true (by first | (with_reducible assumption) | assumption)
                                                            have q423 : x8_1 < (x6_2.length : Int) := of_decide_eq_true (by first | (with_reducible assumption) | assumption)
                                                            obtain ⟨ad423, e423, hx423_0⟩ := Kd.at_int (Kd.R_reads' HO_6.out).2.2 x8_1 p423 q423
                                                            obtain rfl : (⟨go18, 0, none⟩ : Addr) = ad423 := (by injection e423)
                                                            (first | simp only [add_plain] at hx423_0 | simp only [add_at] at hx423_0 | simp only [Addr.add, Nat.zero_add] at hx423_0 | skip)
                                                            replace p423 := eq_true p423
                                                            replace q423 := eq_true q423
                                                            have p424 : 0 ≤ (x8_1 : Int) := of_decide_eq_true (by first | (with_reducible assumption) | assumption)
                                                            have q424 : x8_1 < (x7_2.length : Int) := of_decide_eq_true (by first | (with_reducible assumption) | assumption)
                                                            obtain ⟨ad424, e424, hx424_0⟩ := Kd.at_int (Kd.R_reads' HO_7.out).2.2 x8_1 p424 q424
                                                            obtain rfl : ad417 = ad424 := (by injection e424)
                                                            replace p424 := eq_true p424
                                                            replace q424 := eq_true q424
                                                            have p51 : 0 ≤ (x8_1 : Int) := of_decide_eq_true (by first | (with_reducible assumption) | assumption)
                                                            have q51 : (x8_1 : Int) < ((x6_2.length : Int) : Int) := of_decide_eq_true (by first | (with_reducible assumption) | assumption)
                                                            obtain ⟨hx51_0, hf51_0⟩ := Kd.R_celln 0 HO_6.out (x8_1 : Int) p51 q51
                                                            replace p51 := eq_true p51
                                                            replace q51 := eq_true q51
                                                            have HP53 := Kd.R_putg HO_6.out (x8_1 : Int) (wrap64 ((rd x6_2 (ji27)) + 1))
                                                            go_wp2_with (first | ((with_reducible refine gate_store (t := 3) (p := 101) rfl ?_); (try (rw [drewN_self wc]; generalize hq_ : World.drewN wc _ = wc; have n0_ := Aside0.mk (Kd.R_at hq_ HO_6.out); have n1_ := Aside0.mk (Kd.R_at hq_ HO_7.out); have n2_ := Aside0.mk (below_at hq_ HB.out); clear hq_ HO_6 HO_7 HB; have HO_6 := n0_; have HO_7 := n1_; have HB := n2_; clear n0_ n1_ n2_; (try (have HP53 := Kd.R_putg HO_6.out (x8_1 : Int) (wrap64 ((rd x6_2 (ji27)) + 1)))))); refine store_event (t := 3) (p := 101) (v := ?vo_w54) (w1 := (wc.setCell ⟨go18, (x8_1 : Int).toNat, none⟩ (.int .i64 (wrap64 ((rd x6_2 (ji27)) + 1))))) ?hg ?ho ?hn ?hr ?_; (case ho => rfl); (case hg => rfl); (case hn => rfl); (case hr => first | (go_simp; done) | (go_simp; rfl)); intro w54 hw; have hg : wc.grownBy w54 (some go18) := (by rw [hw]; exact HP53.2); have hp_ : Kd.R (Kd.int .i64) 3 w54 w.heap.size (fun k_ => some k_ ≠ (.slice (some ad417) x7_2.length co33 : Value).ownBlock) (.slice (some ⟨go18, 0, none⟩) x6_2.length co18) y425 := (by rw [hw, Ny425.out]; exact HP53.1); clear HP53; have n0_ := Aside0.mk (hp_); have n1_ := Aside0.mk (Kd.R_after (v := (.slice (some ⟨go18, 0, none⟩) x6_2.length co18)) (v1 := (.slice (some ⟨go18, 0, none⟩) x6_2.length co18)) (ok := (fun _ => True)) (by (with_reducible repeat (first | apply Kd.R_alloc | apply Kd.R_drewN | apply Kd.R_drew)); exact Kd.R_mono HO_7.out (fun _ hk => ⟨trivial, hk⟩)) hg (.inl rfl)); have n2_ := Aside0.mk ((by rw [hw]; exact below_set (HB.out) GB18.out : Below w.heap.size w w54)); clear HO_6; clear HO_7; clear HB; have HO_6 := n0_; have HO_7 := n1_; have HB := n2_; clear n0_ n1_ n2_; clear hg hw hp_; have p52 : 0 ≤ (x8_1 : Int) := of_decide_eq_true (by first | (with_reducible assumption) | assumption); have q52 : (x8_1 : Int) < ((x7_2.length : Int) : Int) := of_decide_eq_true (by first | (with_reducible assumption) | assumption); obtain ⟨go52, co52, eo52, gb52, gl52, cl52, HG52⟩ := Kd.R_form HO_7.out (by omega); (first | cases eo52 | (injection eo52 with ea_ en_ ec_; (first | subst ea_ | (injection ea_ with ea_; subst ea_)); subst ec_; clear en_)); have GB52 := Aside0.mk gb52; have GG52 := Aside0.mk HG52; clear gb52 gl52 HG52; (first | simp only [add_plain] at hx424_0 | skip); obtain ⟨hx52_0, hf52_0⟩ := Kd.R_celln 0 HO_7.out (x8_1 : Int) p52 q52; replace p52 := eq_true p52; replace q52 := eq_true q52; have n_ := Aside0.mk (Kd.R_mono (ok' := (fun k_ => some k_ ≠ (.slice (some ⟨go18, 0, none⟩) x6_2.length co18 : Value).ownBlock)) HO_7.out (fun k_ hk => hk.2)); clear HO_7; have HO_7 := n_; clear n_; obtain ⟨hy55_, hz55_⟩ := Kd.R_celln 0 HO_7.out (x8_1 : Int) (of_decide_eq_true (by first | (with_reducible assumption) | assumption)) (of_decide_eq_true (by first | (with_reducible assumption) | assumption)); have HP55 := Kd.R_putg HO_7.out (x8_1 : Int) (rd l0 x9_2)) | ((with_reducible refine gate_store (t := 3) (p := 105) rfl ?_); (try (rw [drewN_self w54]; generalize hq_ : World.drewN w54 _ = w54; have n0_ := Aside0.mk (Kd.R_at hq_ HO_6.out); have n1_ := Aside0.mk (Kd.R_at hq_ HO_7.out); have n2_ := Aside0.mk (below_at hq_ HB.out); clear hq_ HO_6 HO_7 HB; have HO_6 := n0_; have HO_7 := n1_; have HB := n2_; clear n0_ n1_ n2_; (try (have n_ := Aside0.mk (Kd.R_mono (ok' := (fun k_ => some k_ ≠ (.slice (some ⟨go18, 0, none⟩) x6_2.length co18 : Value).ownBlock)) HO_7.out (fun k_ hk => hk.2)); clear HO_7; have HO_7 := n_; clear n_)); (try (obtain ⟨hy55_, hz55_⟩ := Kd.R_celln 0 HO_7.out (x8_1 : Int) (of_decide_eq_true (by first | (with_reducible assumption) | assumption)) (of_decide_eq_true (by first | (with_reducible assumption) | assumption)))); (try (have HP55 := Kd.R_putg HO_7.out (x8_1 : Int) (rd l0 x9_2))))); refine store_event (t := 3) (p := 105) (v := ?vo_w56) (w1 := (w54.setCell ⟨go52, (x8_1 : Int).toNat, none⟩ (.int .i64 (rd l0 x9_2)))) ?hg ?ho ?hn ?hr ?_; (case ho => rfl); (case hg => rfl); (case hn => rfl); (case hr => first | (go_simp; done) | (go_simp; rfl)); intro w56 hw; have hg : w54.grownBy w56 (some go52) := (by rw [hw]; exact HP55.2); have hp_ : Kd.R (Kd.int .i64) 3 w56 w.heap.size (fun k_ => some k_ ≠ (.slice (some ⟨go18, 0, none⟩) x6_2.length co18 : Value).ownBlock) (.slice (some ⟨go52, 0, none⟩) x7_2.length co33) y426 := (by rw [hw, Ny426.out]; exact HP55.1); clear HP55; have n0_ := Aside0.mk (Kd.R_after (v := (.slice (some ⟨go52, 0, none⟩) x7_2.length co33)) (v1 := (.slice (some ⟨go52, 0, none⟩) x7_2.length co33)) (ok := (fun _ => True)) (by (with_reducible repeat (first | apply Kd.R_alloc | apply Kd.R_drewN | apply Kd.R_drew)); exact Kd.R_mono HO_6.out (fun _ hk => ⟨trivial, hk⟩)) hg (.inl rfl)); have n1_ := Aside0.mk (hp_); have n2_ := Aside0.mk ((by rw [hw]; exact below_set (HB.out) GB52.out : Below w.heap.size w w56)); clear HO_6; clear HO_7; clear HB; have HO_6 := n0_; have HO_7 := n1_; have HB := n2_; clear n0_ n1_ n2_; clear hg hw hp_))
                                                            repeat (go_quiet (first | ((with_reducible refine gate_store (t := 3) (p := 101) rfl ?_); (try (rw [drewN_self wc]; generalize hq_ : World.drewN wc _ = wc; have n0_ := Aside0.mk (Kd.R_at hq_ HO_6.out); have n1_ := Aside0.mk (Kd.R_at hq_ HO_7.out); have n2_ := Aside0.mk (below_at hq_ HB.out); clear hq_ HO_6 HO_7 HB; have HO_6 := n0_; have HO_7 := n1_; have HB := n2_; clear n0_ n1_ n2_; (try (have HP53 := Kd.R_putg HO_6.out (x8_1 : Int) (wrap64 ((rd x6_2 (ji27)) + 1)))))); refine store_event (t := 3) (p := 101) (v := ?vo_w54) (w1 := (wc.setCell ⟨go18, (x8_1 : Int).toNat, none⟩ (.int .i64 (wrap64 ((rd x6_2 (ji27)) + 1))))) ?hg ?ho ?hn ?hr ?_; (case ho => rfl); (case hg => rfl); (case hn => rfl); (case hr => first | (go_simp; done) | (go_simp; rfl)); intro w54 hw; have hg : wc.grownBy w54 (some go18) := (by rw [hw]; exact HP53.2); have hp_ : Kd.R (Kd.int .i64) 3 w54 w.heap.size (fun k_ => some k_ ≠ (.slice (some ad417) x7_2.length co33 : Value).ownBlock) (.slice (some ⟨go18, 0, none⟩) x6_2.length co18) y425 := (by rw [hw, Ny425.out]; exact HP53.1); clear HP53; have n0_ := Aside0.mk (hp_); have n1_ := Aside0.mk (Kd.R_after (v := (.slice (some ⟨go18, 0, none⟩) x6_2.length co18)) (v1 := (.slice (some ⟨go18, 0, none⟩) x6_2.length co18)) (ok := (fun _ => True)) (by (with_reducible repeat (first | apply Kd.R_alloc | apply Kd.R_drewN | apply Kd.R_drew)); exact Kd.R_mono HO_7.out (fun _ hk => ⟨trivial, hk⟩)) hg (.inl rfl)); have n2_ := Aside0.mk ((by rw [hw]; exact below_set (HB.out) GB18.out : Below w.heap.size w w54)); clear HO_6; clear HO_7; clear HB; have HO_6 := n0_; have HO_7 := n1_; have HB := n2_; clear n0_ n1_ n2_; clear hg hw hp_; have p52 : 0 ≤ (x8_1 : Int) := of_decide_eq_true (by first | (with_reducible assumption) | assumption); have q52 : (x8_1 : Int) < ((x7_2.length : Int) : Int) := of_decide_eq_true (by first | (with_reducible assumption) | assumption); obtain ⟨go52, co52, eo52, gb52, gl52, cl52, HG52⟩ := Kd.R_form HO_7.out (by omega); (first | cases eo52 | (injection eo52 with ea_ en_ ec_; (first | subst ea_ | (injection ea_ with ea_; subst ea_)); subst ec_; clear en_)); have GB52 := Aside0.mk gb52; have GG52 := Aside0.mk HG52; clear gb52 gl52 HG52; (first | simp only [add_plain] at hx424_0 | skip); obtain ⟨hx52_0, hf52_0⟩ := Kd.R_celln 0 HO_7.out (x8_1 : Int) p52 q52; replace p52 := eq_true p52; replace q52 := eq_true q52; have n_ := Aside0.mk (Kd.R_mono (ok' := (fun k_ => some k_ ≠ (.slice (some ⟨go18, 0, none⟩) x6_2.length co18 : Value).ownBlock)) HO_7.out (fun k_ hk => hk.2)); clear HO_7; have HO_7 := n_; clear n_; obtain ⟨hy55_, hz55_⟩ := Kd.R_celln 0 HO_7.out (x8_1 : Int) (of_decide_eq_true (by first | (with_reducible assumption) | assumption)) (of_decide_eq_true (by first | (with_reducible assumption) | assumption)); have HP55 := Kd.R_putg HO_7.out (x8_1 : Int) (rd l0 x9_2)) | ((with_reducible refine gate_store (t := 3) (p := 105) rfl ?_); (try (rw [drewN_self w54]; generalize hq_ : World.drewN w54 _ = w54; have n0_ := Aside0.mk (Kd.R_at hq_ HO_6.out); have n1_ := Aside0.mk (Kd.R_at hq_ HO_7.out); have n2_ := Aside0.mk (below_at hq_ HB.out); clear hq_ HO_6 HO_7 HB; have HO_6 := n0_; have HO_7 := n1_; have HB := n2_; clear n0_ n1_ n2_; (try (have n_ := Aside0.mk (Kd.R_mono (ok' := (fun k_ => some k_ ≠ (.slice (some ⟨go18, 0, none⟩) x6_2.length co18 : Value).ownBlock)) HO_7.out (fun k_ hk => hk.2)); clear HO_7; have HO_7 := n_; clear n_)); (try (obtain ⟨hy55_, hz55_⟩ := Kd.R_celln 0 HO_7.out (x8_1 : Int) (of_decide_eq_true (by first | (with_reducible assumption) | assumption)) (of_decide_eq_true (by first | (with_reducible assumption) | assumption)))); (try (have HP55 := Kd.R_putg HO_7.out (x8_1 : Int) (rd l0 x9_2))))); refine store_event (t := 3) (p := 105) (v := ?vo_w56) (w1 := (w54.setCell ⟨go52, (x8_1 : Int).toNat, none⟩ (.int .i64 (rd l0 x9_2)))) ?hg ?ho ?hn ?hr ?_; (case ho => rfl); (case hg => rfl); (case hn => rfl); (case hr => first | (go_simp; done) | (go_simp; rfl)); intro w56 hw; have hg : w54.grownBy w56 (some go52) := (by rw [hw]; exact HP55.2); have hp_ : Kd.R (Kd.int .i64) 3 w56 w.heap.size (fun k_ => some k_ ≠ (.slice (some ⟨go18, 0, none⟩) x6_2.length co18 : Value).ownBlock) (.slice (some ⟨go52, 0, none⟩) x7_2.length co33) y426 := (by rw [hw, Ny426.out]; exact HP55.1); clear HP55; have n0_ := Aside0.mk (Kd.R_after (v := (.slice (some ⟨go52, 0, none⟩) x7_2.length co33)) (v1 := (.slice (some ⟨go52, 0, none⟩) x7_2.length co33)) (ok := (fun _ => True)) (by (with_reducible repeat (first | apply Kd.R_alloc | apply Kd.R_drewN | apply Kd.R_drew)); exact Kd.R_mono HO_6.out (fun _ hk => ⟨trivial, hk⟩)) hg (.inl rfl)); have n1_ := Aside0.mk (hp_); have n2_ := Aside0.mk ((by rw [hw]; exact below_set (HB.out) GB52.out : Below w.heap.size w w56)); clear HO_6; clear HO_7; clear HB; have HO_6 := n0_; have HO_7 := n1_; have HB := n2_; clear n0_ n1_ n2_; clear hg hw hp_)); try go_wp2_with (first | ((with_reducible refine gate_store (t := 3) (p := 101) rfl ?_); (try (rw [drewN_self wc]; generalize hq_ : World.drewN wc _ = wc; have n0_ := Aside0.mk (Kd.R_at hq_ HO_6.out); have n1_ := Aside0.mk (Kd.R_at hq_ HO_7.out); have n2_ := Aside0.mk (below_at hq_ HB.out); clear hq_ HO_6 HO_7 HB; have HO_6 := n0_; have HO_7 := n1_; have HB := n2_; clear n0_ n1_ n2_; (try (have HP53 := Kd.R_putg HO_6.out (x8_1 : Int) (wrap64 ((rd x6_2 (ji27)) + 1)))))); refine store_event (t := 3) (p := 101) (v := ?vo_w54) (w1 := (wc.setCell ⟨go18, (x8_1 : Int).toNat, none⟩ (.int .i64 (wrap64 ((rd x6_2 (ji27)) + 1))))) ?hg ?ho ?hn ?hr ?_; (case ho => rfl); (case hg => rfl); (case hn => rfl); (case hr => first | (go_simp; done) | (go_simp; rfl)); intro w54 hw; have hg : wc.grownBy w54 (some go18) := (by rw [hw]; exact HP53.2); have hp_ : Kd.R (Kd.int .i64) 3 w54 w.heap.size (fun k_ => some k_ ≠ (.slice (some ad417) x7_2.length co33 : Value).ownBlock) (.slice (some ⟨go18, 0, none⟩) x6_2.length co18) y425 := (by rw [hw, Ny425.out]; exact HP53.1); clear HP53; have n0_ := Aside0.mk (hp_); have n1_ := Aside0.mk (Kd.R_after (v := (.slice (some ⟨go18, 0, none⟩) x6_2.length co18)) (v1 := (.slice (some ⟨go18, 0, none⟩) x6_2.length co18)) (ok := (fun _ => True)) (by (with_reducible repeat (first | apply Kd.R_alloc | apply Kd.R_drewN | apply Kd.R_drew)); exact Kd.R_mono HO_7.out (fun _ hk => ⟨trivial, hk⟩)) hg (.inl rfl)); have n2_ := Aside0.mk ((by rw [hw]; exact below_set (HB.out) GB18.out : Below w.heap.size w w54)); clear HO_6; clear HO_7; clear HB; have HO_6 := n0_; have HO_7 := n1_; have HB := n2_; clear n0_ n1_ n2_; clear hg hw hp_; have p52 : 0 ≤ (x8_1 : Int) := of_decide_eq_true (by first | (with_reducible assumption) | assumption); have q52 : (x8_1 : Int) < ((x7_2.length : Int) : Int) := of_decide_eq_true (by first | (with_reducible assumption) | assumption); obtain ⟨go52, co52, eo52, gb52, gl52, cl52, HG52⟩ := Kd.R_form HO_7.out (by omega); (first | cases eo52 | (injection eo52 with ea_ en_ ec_; (first | subst ea_ | (injection ea_ with ea_; subst ea_)); subst ec_; clear en_)); have GB52 := Aside0.mk gb52; have GG52 := Aside0.mk HG52; clear gb52 gl52 HG52; (first | simp only [add_plain] at hx424_0 | skip); obtain ⟨hx52_0, hf52_0⟩ := Kd.R_celln 0 HO_7.out (x8_1 : Int) p52 q52; replace p52 := eq_true p52; replace q52 := eq_true q52; have n_ := Aside0.mk (Kd.R_mono (ok' := (fun k_ => some k_ ≠ (.slice (some ⟨go18, 0, none⟩) x6_2.length co18 : Value).ownBlock)) HO_7.out (fun k_ hk => hk.2)); clear HO_7; have HO_7 := n_; clear n_; obtain ⟨hy55_, hz55_⟩ := Kd.R_celln 0 HO_7.out (x8_1 : Int) (of_decide_eq_true (by first | (with_reducible assumption) | assumption)) (of_decide_eq_true (by first | (with_reducible assumption) | assumption)); have HP55 := Kd.R_putg HO_7.out (x8_1 : Int) (rd l0 x9_2)) | ((with_reducible refine gate_store (t := 3) (p := 105) rfl ?_); (try (rw [drewN_self w54]; generalize hq_ : World.drewN w54 _ = w54; have n0_ := Aside0.mk (Kd.R_at hq_ HO_6.out); have n1_ := Aside0.mk (Kd.R_at hq_ HO_7.out); have n2_ := Aside0.mk (below_at hq_ HB.out); clear hq_ HO_6 HO_7 HB; have HO_6 := n0_; have HO_7 := n1_; have HB := n2_; clear n0_ n1_ n2_; (try (have n_ := Aside0.mk (Kd.R_mono (ok' := (fun k_ => some k_ ≠ (.slice (some ⟨go18, 0, none⟩) x6_2.length co18 : Value).ownBlock)) HO_7.out (fun k_ hk => hk.2)); clear HO_7; have HO_7 := n_; clear n_)); (try (obtain ⟨hy55_, hz55_⟩ := Kd.R_celln 0 HO_7.out (x8_1 : Int) (of_decide_eq_true (by first | (with_reducible assumption) | assumption)) (of_decide_eq_true (by first | (with_reducible assumption) | assumption)))); (try (have HP55 := Kd.R_putg HO_7.out (x8_1 : Int) (rd l0 x9_2))))); refine store_event (t := 3) (p := 105) (v := ?vo_w56) (w1 := (w54.setCell ⟨go52, (x8_1 : Int).toNat, none⟩ (.int .i64 (rd l0 x9_2)))) ?hg ?ho ?hn ?hr ?_; (case ho => rfl); (case hg => rfl); (case hn => rfl); (case hr => first | (go_simp; done) | (go_simp; rfl)); intro w56 hw; have hg : w54.grownBy w56 (some go52) := (by rw [hw]; exact HP55.2); have hp_ : Kd.R (Kd.int .i64) 3 w56 w.heap.size (fun k_ => some k_ ≠ (.slice (some ⟨go18, 0, none⟩) x6_2.length co18 : Value).ownBlock) (.slice (some ⟨go52, 0, none⟩) x7_2.length co33) y426 := (by rw [hw, Ny426.out]; exact HP55.1); clear HP55; have n0_ := Aside0.mk (Kd.R_after (v := (.slice (some ⟨go52, 0, none⟩) x7_2.length co33)) (v1 := (.slice (some ⟨go52, 0, none⟩) x7_2.length co33)) (ok := (fun _ => True)) (by (with_reducible repeat (first | apply Kd.R_alloc | apply Kd.R_drewN | apply Kd.R_drew)); exact Kd.R_mono HO_6.out (fun _ hk => ⟨trivial, hk⟩)) hg (.inl rfl)); have n1_ := Aside0.mk (hp_); have n2_ := Aside0.mk ((by rw [hw]; exact below_set (HB.out) GB52.out : Below w.heap.size w w56)); clear HO_6; clear HO_7; clear HB; have HO_6 := n0_; have HO_7 := n1_; have HB := n2_; clear n0_ n1_ n2_; clear hg hw hp_)))
                                                            (try simp only [← hl6_2])
                                                            go_roundg kj31
                                                            case measure => have := HK1.out; have := HK2.out; have := HJ31.out; omega
                                                            case rel => exact ⟨(y425), (y426), (wrap64 (x9_2 + 1)), (by first | rfl | (simp; done) | (simp [*]; done)), H', ⟨by have := HK1.out; have := HK2.out; have := HJ31.out; omega⟩, ⟨by (try simp only [hl6_2]); (with_reducible repeat (first | apply Kd.R_alloc | apply Kd.R_drewN | apply Kd.R_drew)); exact Kd.R_mono HO_6.out (fun _ hk => hk.2)⟩, ⟨by (try simp only [hl6_2]); (with_reducible repeat (first | apply Kd.R_alloc | apply Kd.R_drewN | apply Kd.R_drew)); exact HO_7.out⟩, ⟨by repeat (first | (with_reducible first | exact HB.out | apply below_alloc | apply pw_below_drewN | apply below_drew1) | exact HB.out)⟩⟩
                                                          · rw [if_neg c50] at H
                                                            have c50b0 : decide ((rd l0 x9_2) < (rd x7_2 x8_1)) = false := decide_eq_false c50
                                                            clear c50
                                                            have H' := Aside0.mk H
                                                            clear H
                                                            have p419 : 0 ≤ (x9_2 : Int) := of_decide_eq_true (by first | (with_reducible assumption) | assumption)
                                                            have q419 : x9_2 < (l0.length : Int) := of_decide_eq_true (by first | (with_reducible assumption) | assumption)
                                                            obtain ⟨ad419, e419, hx419_0⟩ := Kd.at_int HR0.out x9_2 p419 q419
                                                            obtain rfl : ad418 = ad419 := (by injection e419)
                                                            replace hx419_0 := (HB.out.cell (World.block_lt_of_cell? w _ hx419_0)).trans hx419_0
                                                            replace p419 := eq_true p419
                                                            replace q419 := eq_true q419
                                                            have p420 : 0 ≤ (x8_1 : Int) := of_decide_eq_true (by first | (with_reducible assumption) | assumption)
                                                            have q420 : x8_1 < (x6_2.length : Int) := of_decide_eq_true (by first | (with_reducible assumption) | assumption)
                                                            obtain ⟨ad420, e420, hx420_0⟩ := Kd.at_int (Kd.R_reads' HO_6.out).2.2 x8_1 p420 q420
                                                            obtain rfl : (⟨go18, 0, none⟩ : Addr) = ad420 := (by injection e420)
                                                            (first | simp only [add_plain] at hx420_0 | simp only [add_at] at hx420_0 | simp only [Addr.add, Nat.zero_add] at hx420_0 | skip)
                                                            replace p420 := eq_true p420
                                                            replace q420 := eq_true q420
                                                            have p423 : 0 ≤ (x8_1 : Int) := of_decide_eq_true (by first | (with_reducible assumption) | assumption)
                                                            have q423 : x8_1 < (x6_2.length : Int) := of_decide_eq_true (by first | (with_reducible assumption) | assumption)
                                                            obtain ⟨ad423, e423, hx423_0⟩ := Kd.at_int (Kd.R_reads' HO_6.out).2.2 x8_1 p423 q423
                                                            obtain rfl : (⟨go18, 0, none⟩ : Addr) = ad423 := (by injection e423)
                                                            (first | simp only [add_plain] at hx423_0 | simp only [add_at] at hx423_0 | simp only [Addr.add, Nat.zero_add] at hx423_0 | skip)
                                                            replace p423 := eq_true p423
                                                            replace q423 := eq_true q423
                                                            have p424 : 0 ≤ (x8_1 : Int) := of_decide_eq_true (by first | (with_reducible assumption) | assumption)
                                                            have q424 : x8_1 < (x7_2.length : Int) := of_decide_eq_true (by first | (with_reducible assumption) | assumption)
                                                            obtain ⟨ad424, e424, hx424_0⟩ := Kd.at_int (Kd.R_reads' HO_7.out).2.2 x8_1 p424 q424
                                                            obtain rfl : ad417 = ad424 := (by injection e424)
                                                            replace p424 := eq_true p424
                                                            replace q424 := eq_true q424
                                                            go_wp2
                                                            repeat (go_quiet (fail); try go_wp2)
                                                            (try simp only [← hl6_2])
                                                            go_roundg kj31
                                                            case measure => have := HK1.out; have := HK2.out; have := HJ31.out; omega
                                                            case rel => exact ⟨(x6_2), (x7_2), (wrap64 (x9_2 + 1)), (by first | rfl | (simp; done) | (simp [*]; done)), H', ⟨by have := HK1.out; have := HK2.out; have := HJ31.out; omega⟩, ⟨by (try simp only [hl6_2]); (with_reducible repeat (first | apply Kd.R_alloc | apply Kd.R_drewN | apply Kd.R_drew)); exact HO_6.out⟩, ⟨by (try simp only [hl6_2]); (with_reducible repeat (first | apply Kd.R_alloc | apply Kd.R_drewN | apply Kd.R_drew)); exact HO_7.out⟩, ⟨by repeat (first | (with_reducible first | exact HB.out | apply below_alloc | apply pw_below_drewN | apply below_drew1) | exact HB.out)⟩⟩
                                                        · rw [if_neg c49] at H
                                                          exact absurd H (by simp)
                                                      · rw [if_neg c48] at H
                                                        have c48b0 : ((wrap64 ((rd x6_2 (ji27)) + 1)) == (rd x6_2 x8_1)) = false := beq_eq_false_iff_ne.mpr c48
                                                        have c48b1 : ((wrap64 ((rd x6_2 (ji27)) + 1)) != (rd x6_2 x8_1)) = true := bne_iff_ne.mpr c48
                                                        have H' := Aside0.mk H
                                                        clear H
                                                        have p419 : 0 ≤ (x9_2 : Int) := of_decide_eq_true (by first | (with_reducible assumption) | assumption)
                                                        have q419 : x9_2 < (l0.length : Int) := of_decide_eq_true (by first | (with_reducible assumption) | assumption)
                                                        obtain ⟨ad419, e419, hx419_0⟩ := Kd.at_int HR0.out x9_2 p419 q419
                                                        obtain rfl : ad418 = ad419 := (by injection e419)
                                                        replace hx419_0 := (HB.out.cell (World.block_lt_of_cell? w _ hx419_0)).trans hx419_0
                                                        replace p419 := eq_true p419
                                                        replace q419 := eq_true q419
                                                        have p420 : 0 ≤ (x8_1 : Int) := of_decide_eq_true (by first | (with_reducible assumption) | assumption)
                                                        have q420 : x8_1 < (x6_2.length : Int) := of_decide_eq_true (by first | (with_reducible assumption) | assumption)
                                                        obtain ⟨ad420, e420, hx420_0⟩ := Kd.at_int (Kd.R_reads' HO_6.out).2.2 x8_1 p420 q420
                                                        obtain rfl : (⟨go18, 0, none⟩ : Addr) = ad420 := (by injection e420)
                                                        (first | simp only [add_plain] at hx420_0 | simp only [add_at] at hx420_0 | simp only [Addr.add, Nat.zero_add] at hx420_0 | skip)
                                                        replace p420 := eq_true p420
                                                        replace q420 := eq_true q420
                                                        have p423 : 0 ≤ (x8_1 : Int) := of_decide_eq_true (by first | (with_reducible assumption) | assumption)
                                                        have q423 : x8_1 < (x6_2.length : Int) := of_decide_eq_true (by first | (with_reducible assumption) | assumption)
                                                        obtain ⟨ad423, e423, hx423_0⟩ := Kd.at_int (Kd.R_reads' HO_6.out).2.2 x8_1 p423 q423
                                                        obtain rfl : (⟨go18, 0, none⟩ : Addr) = ad423 := (by injection e423)
                                                        (first | simp only [add_plain] at hx423_0 | simp only [add_at] at hx423_0 | simp only [Addr.add, Nat.zero_add] at hx423_0 | skip)
                                                        replace p423 := eq_true p423
                                                        replace q423 := eq_true q423
                                                        go_wp2
                                                        repeat (go_quiet (fail); try go_wp2)
                                                        (try simp only [← hl6_2])
                                                        go_roundg kj31
                                                        case measure => have := HK1.out; have := HK2.out; have := HJ31.out; omega
                                                        case rel => exact ⟨(x6_2), (x7_2), (wrap64 (x9_2 + 1)), (by first | rfl | (simp; done) | (simp [*]; done)), H', ⟨by have := HK1.out; have := HK2.out; have := HJ31.out; omega⟩, ⟨by (try simp only [hl6_2]); (with_reducible repeat (first | apply Kd.R_alloc | apply Kd.R_drewN | apply Kd.R_drew)); exact HO_6.out⟩, ⟨by (try simp only [hl6_2]); (with_reducible repeat (first | apply Kd.R_alloc | apply Kd.R_drewN | apply Kd.R_drew)); exact HO_7.out⟩, ⟨by repeat (first | (with_reducible first | exact HB.out | apply below_alloc | apply pw_below_drewN | apply below_drew1) | exact HB.out)⟩⟩
                                                  · rw [if_neg c39] at H
                                                    exact absurd H (by simp)
                                                · rw [if_neg c38] at H
                                                  exact absurd H (by simp)
                                              · rw [if_neg c37] at H
                                                exact absurd H (by simp)
                                            · rw [if_neg c36] at H
                                              exact absurd H (by simp)
                                          · replace c35 := Bool.eq_false_iff.mpr c35
                                            subst c35
                                            have H1 : (if 0 ≤ x8_1 then (if x8_1 < (x6_2.length : Int) then (if (rd x6_2 (ji27)) < (rd x6_2 x8_1) then (if x8_1 < (x7_2.length : Int) then (spec_FewestStrips.l1 kj31 l0 a1 (l0.length : Int) (x6_2.set (x8_1 : Int).toNat (rd x6_2 (ji27))) (x7_2.set (x8_1 : Int).toNat (wrap64 ((rd x7_2 (ji27)) + (rd l0 x9_2)))) x8_1 (wrap64 (x9_2 + 1))) else (none)) else (if (rd x6_2 (ji27)) = (rd x6_2 x8_1) then (if x8_1 < (x7_2.length : Int) then (if (wrap64 ((rd x7_2 (ji27)) + (rd l0 x9_2))) < (rd x7_2 x8_1) then (spec_FewestStrips.l1 kj31 l0 a1 (l0.length : Int) (x6_2.set (x8_1 : Int).toNat (rd x6_2 (ji27))) (x7_2.set (x8_1 : Int).toNat (wrap64 ((rd x7_2 (ji27)) + (rd l0 x9_2)))) x8_1 (wrap64 (x9_2 + 1))) else (spec_FewestStrips.l1 kj31 l0 a1 (l0.length : Int) x6_2 x7_2 x8_1 (wrap64 (x9_2 + 1)))) else (none)) else (spec_FewestStrips.l1 kj31 l0 a1 (l0.length : Int) x6_2 x7_2 x8_1 (wrap64 (x9_2 + 1))))) else (none)) else (none)) = some r := by rw [if_neg (show ¬ (false = true) by decide)] at H; exact H
                                            clear H
                                            have H := H1
                                            clear H1
                                            by_cases c57 : 0 ≤ x8_1
                                            · rw [if_pos c57] at H
                                              have c57b0 : decide (0 ≤ x8_1) = true := decide_eq_true c57
                                              clear c57
                                              by_cases c58 : x8_1 < (x6_2.length : Int)
                                              · rw [if_pos c58] at H
                                                have c58b0 : decide (x8_1 < (x6_2.length : Int)) = true := decide_eq_true c58
                                                clear c58
                                                by_cases c59 : (rd x6_2 (ji27)) < (rd x6_2 x8_1)
                                                · rw [if_pos c59] at H
                                                  have c59b0 : decide ((rd x6_2 (ji27)) < (rd x6_2 x8_1)) = true := decide_eq_true c59
                                                  clear c59
                                                  obtain ⟨y428, hy428⟩ : ∃ y_ : List Int, y_ = (x6_2.set (x8_1 : Int).toNat (rd x6_2 (ji27))) := ⟨_, rfl⟩
                                                  replace H : (if x8_1 < (x7_2.length : Int) then (spec_FewestStrips.l1 kj31 l0 a1 (l0.length : Int) y428 (x7_2.set (x8_1 : Int).toNat (wrap64 ((rd x7_2 (ji27)) + (rd l0 x9_2)))) x8_1 (wrap64 (x9_2 + 1))) else (none)) = some r := by first | (rw [hy428]; with_reducible exact H) | (have H2_ := (Option.bind_some _ _).symm.trans H; rw [hy428]; with_reducible exact H2_) | (have H2_ := (Option.bind_some _ _).symm.trans H; with_reducible exact H2_) | with_reducible exact H | (rw [hy428]; exact H) | exact H
                                                  have Ny428 := Aside0.mk hy428
                                                  clear hy428
                                                  by_cases c61 : x8_1 < (x7_2.length : Int)
                                                  · rw [if_pos c61] at H
                                                    have c61b0 : decide (x8_1 < (x7_2.length : Int)) = true := decide_eq_true c61
                                                    clear c61
                                                    obtain ⟨y429, hy429⟩ : ∃ y_ : List Int, y_ = (x7_2.set (x8_1 : Int).toNat (wrap64 ((rd x7_2 (ji27)) + (rd l0 x9_2)))) := ⟨_, rfl⟩
                                                    replace H : (spec_FewestStrips.l1 kj31 l0 a1 (l0.length : Int) y428 y429 x8_1 (wrap64 (x9_2 + 1))) = some r := by first | (rw [hy429]; with_reducible exact H) | (have H2_ := (Option.bind_some _ _).symm.trans H; rw [hy429]; with_reducible exact H2_) | (have H2_ := (Option.bind_some _ _).symm.trans H; with_reducible exact H2_) | with_reducible exact H | (rw [hy429]; exact H) | exact H
                                                    have Ny429 := Aside0.mk hy429
                                                    clear hy429
                                                    have H' := Aside0.mk H
                                                    clear H
                                                    have p427 : 0 ≤ (x8_1 : Int) := of_decide_eq_true (by first | (with_reducible assumption) | assumption)
                                                    have q427 : x8_1 < (x6_2.length : Int) := of_decide_eq_true (by first | (with_reducible assumption) | assumption)
                                                    obtain ⟨ad427, e427, hx427_0⟩ := Kd.at_int (Kd.R_reads' HO_6.out).2.2 x8_1 p427 q427
                                                    obtain rfl : (⟨go18, 0, none⟩ : Addr) = ad427 := (by injection e427)
                                                    (first | simp only [add_plain] at hx427_0 | simp only [add_at] at hx427_0 | simp only [Addr.add, Nat.zero_add] at hx427_0 | skip)
                                                    replace p427 := eq_true p427
                                                    replace q427 := eq_true q427
                                                    have p60 : 0 ≤ (x8_1 : Int) := of_decide_eq_true (by first | (with_reducible assumption) | assumption)
                                                    have q60 : (x8_1 : Int) < ((x6_2.length : Int) : Int) := of_decide_eq_true (by first | (with_reducible assumption) | assumption)
                                                    obtain ⟨hx60_0, hf60_0⟩ := Kd.R_celln 0 HO_6.out (x8_1 : Int) p60 q60
                                                    replace p60 := eq_true p60
                                                    replace q60 := eq_true q60
                                                    have HP63 := Kd.R_putg HO_6.out (x8_1 : Int) (rd x6_2 (ji27))
                                                    go_wp2_with (first | ((with_reducible refine gate_store (t := 3) (p := 101) rfl ?_); (try (rw [drewN_self wc]; generalize hq_ : World.drewN wc _ = wc; have n0_ := Aside0.mk (Kd.R_at hq_ HO_6.out); have n1_ := Aside0.mk (Kd.R_at hq_ HO_7.out); have n2_ := Aside0.mk (below_at hq_ HB.out); clear hq_ HO_6 HO_7 HB; have HO_6 := n0_; have HO_7 := n1_; have HB := n2_; clear n0_ n1_ n2_; (try (have HP63 := Kd.R_putg HO_6.out (x8_1 : Int) (rd x6_2 (ji27)))))); refine store_event (t := 3) (p := 101) (v := ?vo_w64) (w1 := (wc.setCell ⟨go18, (x8_1 : Int).toNat, none⟩ (.int .i64 (rd x6_2 (ji27))))) ?hg ?ho ?hn ?hr ?_; (case ho => rfl); (case hg => rfl); (case hn => rfl); (case hr => first | (go_simp; done) | (go_simp; rfl)); intro w64 hw; have hg : wc.grownBy w64 (some go18) := (by rw [hw]; exact HP63.2); have hp_ : Kd.R (Kd.int .i64) 3 w64 w.heap.size (fun k_ => some k_ ≠ (.slice (some ad417) x7_2.length co33 : Value).ownBlock) (.slice (some ⟨go18, 0, none⟩) x6_2.length co18) y428 := (by rw [hw, Ny428.out]; exact HP63.1); clear HP63; have n0_ := Aside0.mk (hp_); have n1_ := Aside0.mk (Kd.R_after (v := (.slice (some ⟨go18, 0, none⟩) x6_2.length co18)) (v1 := (.slice (some ⟨go18, 0, none⟩) x6_2.length co18)) (ok := (fun _ => True)) (by (with_reducible repeat (first | apply Kd.R_alloc | apply Kd.R_drewN | apply Kd.R_drew)); exact Kd.R_mono HO_7.out (fun _ hk => ⟨trivial, hk⟩)) hg (.inl rfl)); have n2_ := Aside0.mk ((by rw [hw]; exact below_set (HB.out) GB18.out : Below w.heap.size w w64)); clear HO_6; clear HO_7; clear HB; have HO_6 := n0_; have HO_7 := n1_; have HB := n2_; clear n0_ n1_ n2_; clear hg hw hp_; have p62 : 0 ≤ (x8_1 : Int) := of_decide_eq_true (by first | (with_reducible assumption) | assumption); have q62 : (x8_1 : Int) < ((x7_2.length : Int) : Int) := of_decide_eq_true (by first | (with_reducible assumption) | assumption); obtain ⟨go62, co62, eo62, gb62, gl62, cl62, HG62⟩ := Kd.R_form HO_7.out (by omega); (first | cases eo62 | (injection eo62 with ea_ en_ ec_; (first | subst ea_ | (injection ea_ with ea_; subst ea_)); subst ec_; clear en_)); have GB62 := Aside0.mk gb62; have GG62 := Aside0.mk HG62; clear gb62 gl62 HG62; (first | simp only [add_plain] at hx424_0 | skip); obtain ⟨hx62_0, hf62_0⟩ := Kd.R_celln 0 HO_7.out (x8_1 : Int) p62 q62; replace p62 := eq_true p62; replace q62 := eq_true q62; have n_ := Aside0.mk (Kd.R_mono (ok' := (fun k_ => some k_ ≠ (.slice (some ⟨go18, 0, none⟩) x6_2.length co18 : Value).ownBlock)) HO_7.out (fun k_ hk => hk.2)); clear HO_7; have HO_7 := n_; clear n_; obtain ⟨hy65_, hz65_⟩ := Kd.R_celln 0 HO_7.out (x8_1 : Int) (of_decide_eq_true (by first | (with_reducible assumption) | assumption)) (of_decide_eq_true (by first | (with_reducible assumption) | assumption)); have HP65 := Kd.R_putg HO_7.out (x8_1 : Int) (wrap64 ((rd x7_2 (ji27)) + (rd l0 x9_2)))) | ((with_reducible refine gate_store (t := 3) (p := 105) rfl ?_); (try (rw [drewN_self w64]; generalize hq_ : World.drewN w64 _ = w64; have n0_ := Aside0.mk (Kd.R_at hq_ HO_6.out); have n1_ := Aside0.mk (Kd.R_at hq_ HO_7.out); have n2_ := Aside0.mk (below_at hq_ HB.out); clear hq_ HO_6 HO_7 HB; have HO_6 := n0_; have HO_7 := n1_; have HB := n2_; clear n0_ n1_ n2_; (try (have n_ := Aside0.mk (Kd.R_mono (ok' := (fun k_ => some k_ ≠ (.slice (some ⟨go18, 0, none⟩) x6_2.length co18 : Value).ownBlock)) HO_7.out (fun k_ hk => hk.2)); clear HO_7; have HO_7 := n_; clear n_)); (try (obtain ⟨hy65_, hz65_⟩ := Kd.R_celln 0 HO_7.out (x8_1 : Int) (of_decide_eq_true (by first | (with_reducible assumption) | assumption)) (of_decide_eq_true (by first | (with_reducible assumption) | assumption)))); (try (have HP65 := Kd.R_putg HO_7.out (x8_1 : Int) (wrap64 ((rd x7_2 (ji27)) + (rd l0 x9_2))))))); refine store_event (t := 3) (p := 105) (v := ?vo_w66) (w1 := (w64.setCell ⟨go62, (x8_1 : Int).toNat, none⟩ (.int .i64 (wrap64 ((rd x7_2 (ji27)) + (rd l0 x9_2)))))) ?hg ?ho ?hn ?hr ?_; (case ho => rfl); (case hg => rfl); (case hn => rfl); (case hr => first | (go_simp; done) | (go_simp; rfl)); intro w66 hw; have hg : w64.grownBy w66 (some go62) := (by rw [hw]; exact HP65.2); have hp_ : Kd.R (Kd.int .i64) 3 w66 w.heap.size (fun k_ => some k_ ≠ (.slice (some ⟨go18, 0, none⟩) x6_2.length co18 : Value).ownBlock) (.slice (some ⟨go62, 0, none⟩) x7_2.length co33) y429 := (by rw [hw, Ny429.out]; exact HP65.1); clear HP65; have n0_ := Aside0.mk (Kd.R_after (v := (.slice (some ⟨go62, 0, none⟩) x7_2.length co33)) (v1 := (.slice (some ⟨go62, 0, none⟩) x7_2.length co33)) (ok := (fun _ => True)) (by (with_reducible repeat (first | apply Kd.R_alloc | apply Kd.R_drewN | apply Kd.R_drew)); exact Kd.R_mono HO_6.out (fun _ hk => ⟨trivial, hk⟩)) hg (.inl rfl)); have n1_ := Aside0.mk (hp_); have n2_ := Aside0.mk ((by rw [hw]; exact below_set (HB.out) GB62.out : Below w.heap.size w w66)); clear HO_6; clear HO_7; clear HB; have HO_6 := n0_; have HO_7 := n1_; have HB := n2_; clear n0_ n1_ n2_; clear hg hw hp_))
                                                    repeat (go_quiet (first | ((with_reducible refine gate_store (t := 3) (p := 101) rfl ?_); (try (rw [drewN_self wc]; generalize hq_ : World.drewN wc _ = wc; have n0_ := Aside0.mk (Kd.R_at hq_ HO_6.out); have n1_ := Aside0.mk (Kd.R_at hq_ HO_7.out); have n2_ := Aside0.mk (below_at hq_ HB.out); clear hq_ HO_6 HO_7 HB; have HO_6 := n0_; have HO_7 := n1_; have HB := n2_; clear n0_ n1_ n2_; (try (have HP63 := Kd.R_putg HO_6.out (x8_1 : Int) (rd x6_2 (ji27)))))); refine store_event (t := 3) (p := 101) (v := ?vo_w64) (w1 := (wc.setCell ⟨go18, (x8_1 : Int).toNat, none⟩ (.int .i64 (rd x6_2 (ji27))))) ?hg ?ho ?hn ?hr ?_; (case ho => rfl); (case hg => rfl); (case hn => rfl); (case hr => first | (go_simp; done) | (go_simp; rfl)); intro w64 hw; have hg : wc.grownBy w64 (some go18) := (by rw [hw]; exact HP63.2); have hp_ : Kd.R (Kd.int .i64) 3 w64 w.heap.size (fun k_ => some k_ ≠ (.slice (some ad417) x7_2.length co33 : Value).ownBlock) (.slice (some ⟨go18, 0, none⟩) x6_2.length co18) y428 := (by rw [hw, Ny428.out]; exact HP63.1); clear HP63; have n0_ := Aside0.mk (hp_); have n1_ := Aside0.mk (Kd.R_after (v := (.slice (some ⟨go18, 0, none⟩) x6_2.length co18)) (v1 := (.slice (some ⟨go18, 0, none⟩) x6_2.length co18)) (ok := (fun _ => True)) (by (with_reducible repeat (first | apply Kd.R_alloc | apply Kd.R_drewN | apply Kd.R_drew)); exact Kd.R_mono HO_7.out (fun _ hk => ⟨trivial, hk⟩)) hg (.inl rfl)); have n2_ := Aside0.mk ((by rw [hw]; exact below_set (HB.out) GB18.out : Below w.heap.size w w64)); clear HO_6; clear HO_7; clear HB; have HO_6 := n0_; have HO_7 := n1_; have HB := n2_; clear n0_ n1_ n2_; clear hg hw hp_; have p62 : 0 ≤ (x8_1 : Int) := of_decide_eq_true (by first | (with_reducible assumption) | assumption); have q62 : (x8_1 : Int) < ((x7_2.length : Int) : Int) := of_decide_eq_true (by first | (with_reducible assumption) | assumption); obtain ⟨go62, co62, eo62, gb62, gl62, cl62, HG62⟩ := Kd.R_form HO_7.out (by omega); (first | cases eo62 | (injection eo62 with ea_ en_ ec_; (first | subst ea_ | (injection ea_ with ea_; subst ea_)); subst ec_; clear en_)); have GB62 := Aside0.mk gb62; have GG62 := Aside0.mk HG62; clear gb62 gl62 HG62; (first | simp only [add_plain] at hx424_0 | skip); obtain ⟨hx62_0, hf62_0⟩ := Kd.R_celln 0 HO_7.out (x8_1 : Int) p62 q62; replace p62 := eq_true p62; replace q62 := eq_true q62; have n_ := Aside0.mk (Kd.R_mono (ok' := (fun k_ => some k_ ≠ (.slice (some ⟨go18, 0, none⟩) x6_2.length co18 : Value).ownBlock)) HO_7.out (fun k_ hk => hk.2)); clear HO_7; have HO_7 := n_; clear n_; obtain ⟨hy65_, hz65_⟩ := Kd.R_celln 0 HO_7.out (x8_1 : Int) (of_decide_eq_true (by first | (with_reducible assumption) | assumption)) (of_decide_eq_true (by first | (with_reducible assumption) | assumption)); have HP65 := Kd.R_putg HO_7.out (x8_1 : Int) (wrap64 ((rd x7_2 (ji27)) + (rd l0 x9_2)))) | ((with_reducible refine gate_store (t := 3) (p := 105) rfl ?_); (try (rw [drewN_self w64]; generalize hq_ : World.drewN w64 _ = w64; have n0_ := Aside0.mk (Kd.R_at hq_ HO_6.out); have n1_ := Aside0.mk (Kd.R_at hq_ HO_7.out); have n2_ := Aside0.mk (below_at hq_ HB.out); clear hq_ HO_6 HO_7 HB; have HO_6 := n0_; have HO_7 := n1_; have HB := n2_; clear n0_ n1_ n2_; (try (have n_ := Aside0.mk (Kd.R_mono (ok' := (fun k_ => some k_ ≠ (.slice (some ⟨go18, 0, none⟩) x6_2.length co18 : Value).ownBlock)) HO_7.out (fun k_ hk => hk.2)); clear HO_7; have HO_7 := n_; clear n_)); (try (obtain ⟨hy65_, hz65_⟩ := Kd.R_celln 0 HO_7.out (x8_1 : Int) (of_decide_eq_true (by first | (with_reducible assumption) | assumption)) (of_decide_eq_true (by first | (with_reducible assumption) | assumption)))); (try (have HP65 := Kd.R_putg HO_7.out (x8_1 : Int) (wrap64 ((rd x7_2 (ji27)) + (rd l0 x9_2))))))); refine store_event (t := 3) (p := 105) (v := ?vo_w66) (w1 := (w64.setCell ⟨go62, (x8_1 : Int).toNat, none⟩ (.int .i64 (wrap64 ((rd x7_2 (ji27)) + (rd l0 x9_2)))))) ?hg ?ho ?hn ?hr ?_; (case ho => rfl); (case hg => rfl); (case hn => rfl); (case hr => first | (go_simp; done) | (go_simp; rfl)); intro w66 hw; have hg : w64.grownBy w66 (some go62) := (by rw [hw]; exact HP65.2); have hp_ : Kd.R (Kd.int .i64) 3 w66 w.heap.size (fun k_ => some k_ ≠ (.slice (some ⟨go18, 0, none⟩) x6_2.length co18 : Value).ownBlock) (.slice (some ⟨go62, 0, none⟩) x7_2.length co33) y429 := (by rw [hw, Ny429.out]; exact HP65.1); clear HP65; have n0_ := Aside0.mk (Kd.R_after (v := (.slice (some ⟨go62, 0, none⟩) x7_2.length co33)) (v1 := (.slice (some ⟨go62, 0, none⟩) x7_2.length co33)) (ok := (fun _ => True)) (by (with_reducible repeat (first | apply Kd.R_alloc | apply Kd.R_drewN | apply Kd.R_drew)); exact Kd.R_mono HO_6.out (fun _ hk => ⟨trivial, hk⟩)) hg (.inl rfl)); have n1_ := Aside0.mk (hp_); have n2_ := Aside0.mk ((by rw [hw]; exact below_set (HB.out) GB62.out : Below w.heap.size w w66)); clear HO_6; clear HO_7; clear HB; have HO_6 := n0_; have HO_7 := n1_; have HB := n2_; clear n0_ n1_ n2_; clear hg hw hp_)); try go_wp2_with (first | ((with_reducible refine gate_store (t := 3) (p := 101) rfl ?_); (try (rw [drewN_self wc]; generalize hq_ : World.drewN wc _ = wc; have n0_ := Aside0.mk (Kd.R_at hq_ HO_6.out); have n1_ := Aside0.mk (Kd.R_at hq_ HO_7.out); have n2_ := Aside0.mk (below_at hq_ HB.out); clear hq_ HO_6 HO_7 HB; have HO_6 := n0_; have HO_7 := n1_; have HB := n2_; clear n0_ n1_ n2_; (try (have HP63 := Kd.R_putg HO_6.out (x8_1 : Int) (rd x6_2 (ji27)))))); refine store_event (t := 3) (p := 101) (v := ?vo_w64) (w1 := (wc.setCell ⟨go18, (x8_1 : Int).toNat, none⟩ (.int .i64 (rd x6_2 (ji27))))) ?hg ?ho ?hn ?hr ?_; (case ho => rfl); (case hg => rfl); (case hn => rfl); (case hr => first | (go_simp; done) | (go_simp; rfl)); intro w64 hw; have hg : wc.grownBy w64 (some go18) := (by rw [hw]; exact HP63.2); have hp_ : Kd.R (Kd.int .i64) 3 w64 w.heap.size (fun k_ => some k_ ≠ (.slice (some ad417) x7_2.length co33 : Value).ownBlock) (.slice (some ⟨go18, 0, none⟩) x6_2.length co18) y428 := (by rw [hw, Ny428.out]; exact HP63.1); clear HP63; have n0_ := Aside0.mk (hp_); have n1_ := Aside0.mk (Kd.R_after (v := (.slice (some ⟨go18, 0, none⟩) x6_2.length co18)) (v1 := (.slice (some ⟨go18, 0, none⟩) x6_2.length co18)) (ok := (fun _ => True)) (by (with_reducible repeat (first | apply Kd.R_alloc | apply Kd.R_drewN | apply Kd.R_drew)); exact Kd.R_mono HO_7.out (fun _ hk => ⟨trivial, hk⟩)) hg (.inl rfl)); have n2_ := Aside0.mk ((by rw [hw]; exact below_set (HB.out) GB18.out : Below w.heap.size w w64)); clear HO_6; clear HO_7; clear HB; have HO_6 := n0_; have HO_7 := n1_; have HB := n2_; clear n0_ n1_ n2_; clear hg hw hp_; have p62 : 0 ≤ (x8_1 : Int) := of_decide_eq_true (by first | (with_reducible assumption) | assumption); have q62 : (x8_1 : Int) < ((x7_2.length : Int) : Int) := of_decide_eq_true (by first | (with_reducible assumption) | assumption); obtain ⟨go62, co62, eo62, gb62, gl62, cl62, HG62⟩ := Kd.R_form HO_7.out (by omega); (first | cases eo62 | (injection eo62 with ea_ en_ ec_; (first | subst ea_ | (injection ea_ with ea_; subst ea_)); subst ec_; clear en_)); have GB62 := Aside0.mk gb62; have GG62 := Aside0.mk HG62; clear gb62 gl62 HG62; (first | simp only [add_plain] at hx424_0 | skip); obtain ⟨hx62_0, hf62_0⟩ := Kd.R_celln 0 HO_7.out (x8_1 : Int) p62 q62; replace p62 := eq_true p62; replace q62 := eq_true q62; have n_ := Aside0.mk (Kd.R_mono (ok' := (fun k_ => some k_ ≠ (.slice (some ⟨go18, 0, none⟩) x6_2.length co18 : Value).ownBlock)) HO_7.out (fun k_ hk => hk.2)); clear HO_7; have HO_7 := n_; clear n_; obtain ⟨hy65_, hz65_⟩ := Kd.R_celln 0 HO_7.out (x8_1 : Int) (of_decide_eq_true (by first | (with_reducible assumption) | assumption)) (of_decide_eq_true (by first | (with_reducible assumption) | assumption)); have HP65 := Kd.R_putg HO_7.out (x8_1 : Int) (wrap64 ((rd x7_2 (ji27)) + (rd l0 x9_2)))) | ((with_reducible refine gate_store (t := 3) (p := 105) rfl ?_); (try (rw [drewN_self w64]; generalize hq_ : World.drewN w64 _ = w64; have n0_ := Aside0.mk (Kd.R_at hq_ HO_6.out); have n1_ := Aside0.mk (Kd.R_at hq_ HO_7.out); have n2_ := Aside0.mk (below_at hq_ HB.out); clear hq_ HO_6 HO_7 HB; have HO_6 := n0_; have HO_7 := n1_; have HB := n2_; clear n0_ n1_ n2_; (try (have n_ := Aside0.mk (Kd.R_mono (ok' := (fun k_ => some k_ ≠ (.slice (some ⟨go18, 0, none⟩) x6_2.length co18 : Value).ownBlock)) HO_7.out (fun k_ hk => hk.2)); clear HO_7; have HO_7 := n_; clear n_)); (try (obtain ⟨hy65_, hz65_⟩ := Kd.R_celln 0 HO_7.out (x8_1 : Int) (of_decide_eq_true (by first | (with_reducible assumption) | assumption)) (of_decide_eq_true (by first | (with_reducible assumption) | assumption)))); (try (have HP65 := Kd.R_putg HO_7.out (x8_1 : Int) (wrap64 ((rd x7_2 (ji27)) + (rd l0 x9_2))))))); refine store_event (t := 3) (p := 105) (v := ?vo_w66) (w1 := (w64.setCell ⟨go62, (x8_1 : Int).toNat, none⟩ (.int .i64 (wrap64 ((rd x7_2 (ji27)) + (rd l0 x9_2)))))) ?hg ?ho ?hn ?hr ?_; (case ho => rfl); (case hg => rfl); (case hn => rfl); (case hr => first | (go_simp; done) | (go_simp; rfl)); intro w66 hw; have hg : w64.grownBy w66 (some go62) := (by rw [hw]; exact HP65.2); have hp_ : Kd.R (Kd.int .i64) 3 w66 w.heap.size (fun k_ => some k_ ≠ (.slice (some ⟨go18, 0, none⟩) x6_2.length co18 : Value).ownBlock) (.slice (some ⟨go62, 0, none⟩) x7_2.length co33) y429 := (by rw [hw, Ny429.out]; exact HP65.1); clear HP65; have n0_ := Aside0.mk (Kd.R_after (v := (.slice (some ⟨go62, 0, none⟩) x7_2.length co33)) (v1 := (.slice (some ⟨go62, 0, none⟩) x7_2.length co33)) (ok := (fun _ => True)) (by (with_reducible repeat (first | apply Kd.R_alloc | apply Kd.R_drewN | apply Kd.R_drew)); exact Kd.R_mono HO_6.out (fun _ hk => ⟨trivial, hk⟩)) hg (.inl rfl)); have n1_ := Aside0.mk (hp_); have n2_ := Aside0.mk ((by rw [hw]; exact below_set (HB.out) GB62.out : Below w.heap.size w w66)); clear HO_6; clear HO_7; clear HB; have HO_6 := n0_; have HO_7 := n1_; have HB := n2_; clear n0_ n1_ n2_; clear hg hw hp_)))
                                                    (try simp only [← hl6_2])
                                                    go_roundg kj31
                                                    case measure => have := HK1.out; have := HK2.out; have := HJ31.out; omega
                                                    case rel => exact ⟨(y428), (y429), (wrap64 (x9_2 + 1)), (by first | rfl | (simp; done) | (simp [*]; done)), H', ⟨by have := HK1.out; have := HK2.out; have := HJ31.out; omega⟩, ⟨by (try simp only [hl6_2]); (with_reducible repeat (first | apply Kd.R_alloc | apply Kd.R_drewN | apply Kd.R_drew)); exact Kd.R_mono HO_6.out (fun _ hk => hk.2)⟩, ⟨by (try simp only [hl6_2]); (with_reducible repeat (first | apply Kd.R_alloc | apply Kd.R_drewN | apply Kd.R_drew)); exact HO_7.out⟩, ⟨by repeat (first | (with_reducible first | exact HB.out | apply below_alloc | apply pw_below_drewN | apply below_drew1) | exact HB.out)⟩⟩
                                                  · rw [if_neg c61] at H
                                                    exact absurd H (by simp)
                                                · rw [if_neg c59] at H
                                                  have c59b0 : decide ((rd x6_2 (ji27)) < (rd x6_2 x8_1)) = false := decide_eq_false c59
                                                  clear c59
                                                  by_cases c67 : (rd x6_2 (ji27)) = (rd x6_2 x8_1)
                                                  · rw [if_pos c67] at H
                                                    have c67b0 : ((rd x6_2 (ji27)) == (rd x6_2 x8_1)) = true := beq_iff_eq.mpr c67
                                                    have c67b1 : ((rd x6_2 (ji27)) != (rd x6_2 x8_1)) = false := bne_eq_false_iff_eq.mpr c67
                                                    clear c67
                                                    by_cases c68 : x8_1 < (x7_2.length : Int)
                                                    · rw [if_pos c68] at H
                                                      have c68b0 : decide (x8_1 < (x7_2.length : Int)) = true := decide_eq_true c68
                                                      clear c68
                                                      by_cases c69 : (wrap64 ((rd x7_2 (ji27)) + (rd l0 x9_2))) < (rd x7_2 x8_1)
                                                      · rw [if_pos c69] at H
                                                        have c69b0 : decide ((wrap64 ((rd x7_2 (ji27)) + (rd l0 x9_2))) < (rd x7_2 x8_1)) = true := decide_eq_true c69
                                                        clear c69
                                                        obtain ⟨y432, hy432⟩ : ∃ y_ : List Int, y_ = (x6_2.set (x8_1 : Int).toNat (rd x6_2 (ji27))) := ⟨_, rfl⟩
                                                        replace H : (spec_FewestStrips.l1 kj31 l0 a1 (l0.length : Int) y432 (x7_2.set (x8_1 : Int).toNat (wrap64 ((rd x7_2 (ji27)) + (rd l0 x9_2)))) x8_1 (wrap64 (x9_2 + 1))) = some r := by first | (rw [hy432]; with_reducible exact H) | (have H2_ := (Option.bind_some _ _).symm.trans H; rw [hy432]; with_reducible exact H2_) | (have H2_ := (Option.bind_some _ _).symm.trans H; with_reducible exact H2_) | with_reducible exact H | (rw [hy432]; exact H) | exact H
                                                        have Ny432 := Aside0.mk hy432
                                                        clear hy432
                                                        obtain ⟨y433, hy433⟩ : ∃ y_ : List Int, y_ = (x7_2.set (x8_1 : Int).toNat (wrap64 ((rd x7_2 (ji27)) + (rd l0 x9_2)))) := ⟨_, rfl⟩
                                                        replace H : (spec_FewestStrips.l1 kj31 l0 a1 (l0.length : Int) y432 y433 x8_1 (wrap64 (x9_2 + 1))) = some r := by first | (rw [hy433]; with_reducible exact H) | (have H2_ := (Option.bind_some _ _).symm.trans H; rw [hy433]; with_reducible exact H2_) | (have H2_ := (Option.bind_some _ _).symm.trans H; with_reducible exact H2_) | with_reducible exact H | (rw [hy433]; exact H) | exact H
                                                        have Ny433 := Aside0.mk hy433
                                                        clear hy433
                                                        have H' := Aside0.mk H
                                                        clear H
                                                        have p427 : 0 ≤ (x8_1 : Int) := of_decide_eq_true (by first | (with_reducible assumption) | assumption)
                                                        have q427 : x8_1 < (x6_2.length : Int) := of_decide_eq_true (by first | (with_reducible assumption) | assumption)
                                                        obtain ⟨ad427, e427, hx427_0⟩ := Kd.at_int (Kd.R_reads' HO_6.out).2.2 x8_1 p427 q427
                                                        obtain rfl : (⟨go18, 0, none⟩ : Addr) = ad427 := (by injection e427)
                                                        (first | simp only [add_plain] at hx427_0 | simp only [add_at] at hx427_0 | simp only [Addr.add, Nat.zero_add] at hx427_0 | skip)
                                                        replace p427 := eq_true p427
                                                        replace q427 := eq_true q427
                                                        have p430 : 0 ≤ (x8_1 : Int) := of_decide_eq_true (by first | (with_reducible assumption) | assumption)
                                                        have q430 : x8_1 < (x6_2.length : Int) := of_decide_eq_true (by first | (with_reducible assumption) | assumption)
                                                        obtain ⟨ad430, e430, hx430_0⟩ := Kd.at_int (Kd.R_reads' HO_6.out).2.2 x8_1 p430 q430
                                                        obtain rfl : (⟨go18, 0, none⟩ : Addr) = ad430 := (by injection e430)
                                                        (first | simp only [add_plain] at hx430_0 | simp only [add_at] at hx430_0 | simp only [Addr.add, Nat.zero_add] at hx430_0 | skip)
                                                        replace p430 := eq_true p430
                                                        replace q430 := eq_true q430
                                                        have p431 : 0 ≤ (x8_1 : Int) := of_decide_eq_true (by first | (with_reducible assumption) | assumption)
                                                        have q431 : x8_1 < (x7_2.length : Int) := of_decide_eq_true (by first | (with_reducible assumption) | assumption)
                                                        obtain ⟨ad431, e431, hx431_0⟩ := Kd.at_int (Kd.R_reads' HO_7.out).2.2 x8_1 p431 q431
                                                        obtain rfl : ad417 = ad431 := (by injection e431)
                                                        replace p431 := eq_true p431
                                                        replace q431 := eq_true q431
                                                        have p70 : 0 ≤ (x8_1 : Int) := of_decide_eq_true (by first | (with_reducible assumption) | assumption)
                                                        have q70 : (x8_1 : Int) < ((x6_2.length : Int) : Int) := of_decide_eq_true (by first | (with_reducible assumption) | assumption)
                                                        obtain ⟨hx70_0, hf70_0⟩ := Kd.R_celln 0 HO_6.out (x8_1 : Int) p70 q70
                                                        replace p70 := eq_true p70
                                                        replace q70 := eq_true q70
                                                        have HP72 := Kd.R_putg HO_6.out (x8_1 : Int) (rd x6_2 (ji27))
                                                        go_wp2_with (first | ((with_reducible refine gate_store (t := 3) (p := 101) rfl ?_); (try (rw [drewN_self wc]; generalize hq_ : World.drewN wc _ = wc; have n0_ := Aside0.mk (Kd.R_at hq_ HO_6.out); have n1_ := Aside0.mk (Kd.R_at hq_ HO_7.out); have n2_ := Aside0.mk (below_at hq_ HB.out); clear hq_ HO_6 HO_7 HB; have HO_6 := n0_; have HO_7 := n1_; have HB := n2_; clear n0_ n1_ n2_; (try (have HP72 := Kd.R_putg HO_6.out (x8_1 : Int) (rd x6_2 (ji27)))))); refine store_event (t := 3) (p := 101) (v := ?vo_w73) (w1 := (wc.setCell ⟨go18, (x8_1 : Int).toNat, none⟩ (.int .i64 (rd x6_2 (ji27))))) ?hg ?ho ?hn ?hr ?_; (case ho => rfl); (case hg => rfl); (case hn => rfl); (case hr => first | (go_simp; done) | (go_simp; rfl)); intro w73 hw; have hg : wc.grownBy w73 (some go18) := (by rw [hw]; exact HP72.2); have hp_ : Kd.R (Kd.int .i64) 3 w73 w.heap.size (fun k_ => some k_ ≠ (.slice (some ad417) x7_2.length co33 : Value).ownBlock) (.slice (some ⟨go18, 0, none⟩) x6_2.length co18) y432 := (by rw [hw, Ny432.out]; exact HP72.1); clear HP72; have n0_ := Aside0.mk (hp_); have n1_ := Aside0.mk (Kd.R_after (v := (.slice (some ⟨go18, 0, none⟩) x6_2.length co18)) (v1 := (.slice (some ⟨go18, 0, none⟩) x6_2.length co18)) (ok := (fun _ => True)) (by (with_reducible repeat (first | apply Kd.R_alloc | apply Kd.R_drewN | apply Kd.R_drew)); exact Kd.R_mono HO_7.out (fun _ hk => ⟨trivial, hk⟩)) hg (.inl rfl)); have n2_ := Aside0.mk ((by rw [hw]; exact below_set (HB.out) GB18.out : Below w.heap.size w w73)); clear HO_6; clear HO_7; clear HB; have HO_6 := n0_; have HO_7 := n1_; have HB := n2_; clear n0_ n1_ n2_; clear hg hw hp_; have p71 : 0 ≤ (x8_1 : Int) := of_decide_eq_true (by first | (with_reducible assumption) | assumption); have q71 : (x8_1 : Int) < ((x7_2.length : Int) : Int) := of_decide_eq_true (by first | (with_reducible assumption) | assumption); obtain ⟨go71, co71, eo71, gb71, gl71, cl71, HG71⟩ := Kd.R_form HO_7.out (by omega); (first | cases eo71 | (injection eo71 with ea_ en_ ec_; (first | subst ea_ | (injection ea_ with ea_; subst ea_)); subst ec_; clear en_)); have GB71 := Aside0.mk gb71; have GG71 := Aside0.mk HG71; clear gb71 gl71 HG71; (first | simp only [add_plain] at hx431_0 | skip); obtain ⟨hx71_0, hf71_0⟩ := Kd.R_celln 0 HO_7.out (x8_1 : Int) p71 q71; replace p71 := eq_true p71; replace q71 := eq_true q71; have n_ := Aside0.mk (Kd.R_mono (ok' := (fun k_ => some k_ ≠ (.slice (some ⟨go18, 0, none⟩) x6_2.length co18 : Value).ownBlock)) HO_7.out (fun k_ hk => hk.2)); clear HO_7; have HO_7 := n_; clear n_; obtain ⟨hy74_, hz74_⟩ := Kd.R_celln 0 HO_7.out (x8_1 : Int) (of_decide_eq_true (by first | (with_reducible assumption) | assumption)) (of_decide_eq_true (by first | (with_reducible assumption) | assumption)); have HP74 := Kd.R_putg HO_7.out (x8_1 : Int) (wrap64 ((rd x7_2 (ji27)) + (rd l0 x9_2)))) | ((with_reducible refine gate_store (t := 3) (p := 105) rfl ?_); (try (rw [drewN_self w73]; generalize hq_ : World.drewN w73 _ = w73; have n0_ := Aside0.mk (Kd.R_at hq_ HO_6.out); have n1_ := Aside0.mk (Kd.R_at hq_ HO_7.out); have n2_ := Aside0.mk (below_at hq_ HB.out); clear hq_ HO_6 HO_7 HB; have HO_6 := n0_; have HO_7 := n1_; have HB := n2_; clear n0_ n1_ n2_; (try (have n_ := Aside0.mk (Kd.R_mono (ok' := (fun k_ => some k_ ≠ (.slice (some ⟨go18, 0, none⟩) x6_2.length co18 : Value).ownBlock)) HO_7.out (fun k_ hk => hk.2)); clear HO_7; have HO_7 := n_; clear n_)); (try (obtain ⟨hy74_, hz74_⟩ := Kd.R_celln 0 HO_7.out (x8_1 : Int) (of_decide_eq_true (by first | (with_reducible assumption) | assumption)) (of_decide_eq_true (by first | (with_reducible assumption) | assumption)))); (try (have HP74 := Kd.R_putg HO_7.out (x8_1 : Int) (wrap64 ((rd x7_2 (ji27)) + (rd l0 x9_2))))))); refine store_event (t := 3) (p := 105) (v := ?vo_w75) (w1 := (w73.setCell ⟨go71, (x8_1 : Int).toNat, none⟩ (.int .i64 (wrap64 ((rd x7_2 (ji27)) + (rd l0 x9_2)))))) ?hg ?ho ?hn ?hr ?_; (case ho => rfl); (case hg => rfl); (case hn => rfl); (case hr => first | (go_simp; done) | (go_simp; rfl)); intro w75 hw; have hg : w73.grownBy w75 (some go71) := (by rw [hw]; exact HP74.2); have hp_ : Kd.R (Kd.int .i64) 3 w75 w.heap.size (fun k_ => some k_ ≠ (.slice (some ⟨go18, 0, none⟩) x6_2.length co18 : Value).ownBlock) (.slice (some ⟨go71, 0, none⟩) x7_2.length co33) y433 := (by rw [hw, Ny433.out]; exact HP74.1); clear HP74; have n0_ := Aside0.mk (Kd.R_after (v := (.slice (some ⟨go71, 0, none⟩) x7_2.length co33)) (v1 := (.slice (some ⟨go71, 0, none⟩) x7_2.length co33)) (ok := (fun _ => True)) (by (with_reducible repeat (first | apply Kd.R_alloc | apply Kd.R_drewN | apply Kd.R_drew)); exact Kd.R_mono HO_6.out (fun _ hk => ⟨trivial, hk⟩)) hg (.inl rfl)); have n1_ := Aside0.mk (hp_); have n2_ := Aside0.mk ((by rw [hw]; exact below_set (HB.out) GB71.out : Below w.heap.size w w75)); clear HO_6; clear HO_7; clear HB; have HO_6 := n0_; have HO_7 := n1_; have HB := n2_; clear n0_ n1_ n2_; clear hg hw hp_))
                                                        repeat (go_quiet (first | ((with_reducible refine gate_store (t := 3) (p := 101) rfl ?_); (try (rw [drewN_self wc]; generalize hq_ : World.drewN wc _ = wc; have n0_ := Aside0.mk (Kd.R_at hq_ HO_6.out); have n1_ := Aside0.mk (Kd.R_at hq_ HO_7.out); have n2_ := Aside0.mk (below_at hq_ HB.out); clear hq_ HO_6 HO_7 HB; have HO_6 := n0_; have HO_7 := n1_; have HB := n2_; clear n0_ n1_ n2_; (try (have HP72 := Kd.R_putg HO_6.out (x8_1 : Int) (rd x6_2 (ji27)))))); refine store_event (t := 3) (p := 101) (v := ?vo_w73) (w1 := (wc.setCell ⟨go18, (x8_1 : Int).toNat, none⟩ (.int .i64 (rd x6_2 (ji27))))) ?hg ?ho ?hn ?hr ?_; (case ho => rfl); (case hg => rfl); (case hn => rfl); (case hr => first | (go_simp; done) | (go_simp; rfl)); intro w73 hw; have hg : wc.grownBy w73 (some go18) := (by rw [hw]; exact HP72.2); have hp_ : Kd.R (Kd.int .i64) 3 w73 w.heap.size (fun k_ => some k_ ≠ (.slice (some ad417) x7_2.length co33 : Value).ownBlock) (.slice (some ⟨go18, 0, none⟩) x6_2.length co18) y432 := (by rw [hw, Ny432.out]; exact HP72.1); clear HP72; have n0_ := Aside0.mk (hp_); have n1_ := Aside0.mk (Kd.R_after (v := (.slice (some ⟨go18, 0, none⟩) x6_2.length co18)) (v1 := (.slice (some ⟨go18, 0, none⟩) x6_2.length co18)) (ok := (fun _ => True)) (by (with_reducible repeat (first | apply Kd.R_alloc | apply Kd.R_drewN | apply Kd.R_drew)); exact Kd.R_mono HO_7.out (fun _ hk => ⟨trivial, hk⟩)) hg (.inl rfl)); have n2_ := Aside0.mk ((by rw [hw]; exact below_set (HB.out) GB18.out : Below w.heap.size w w73)); clear HO_6; clear HO_7; clear HB; have HO_6 := n0_; have HO_7 := n1_; have HB := n2_; clear n0_ n1_ n2_; clear hg hw hp_; have p71 : 0 ≤ (x8_1 : Int) := of_decide_eq_true (by first | (with_reducible assumption) | assumption); have q71 : (x8_1 : Int) < ((x7_2.length : Int) : Int) := of_decide_eq_true (by first | (with_reducible assumption) | assumption); obtain ⟨go71, co71, eo71, gb71, gl71, cl71, HG71⟩ := Kd.R_form HO_7.out (by omega); (first | cases eo71 | (injection eo71 with ea_ en_ ec_; (first | subst ea_ | (injection ea_ with ea_; subst ea_)); subst ec_; clear en_)); have GB71 := Aside0.mk gb71; have GG71 := Aside0.mk HG71; clear gb71 gl71 HG71; (first | simp only [add_plain] at hx431_0 | skip); obtain ⟨hx71_0, hf71_0⟩ := Kd.R_celln 0 HO_7.out (x8_1 : Int) p71 q71; replace p71 := eq_true p71; replace q71 := eq_true q71; have n_ := Aside0.mk (Kd.R_mono (ok' := (fun k_ => some k_ ≠ (.slice (some ⟨go18, 0, none⟩) x6_2.length co18 : Value).ownBlock)) HO_7.out (fun k_ hk => hk.2)); clear HO_7; have HO_7 := n_; clear n_; obtain ⟨hy74_, hz74_⟩ := Kd.R_celln 0 HO_7.out (x8_1 : Int) (of_decide_eq_true (by first | (with_reducible assumption) | assumption)) (of_decide_eq_true (by first | (with_reducible assumption) | assumption)); have HP74 := Kd.R_putg HO_7.out (x8_1 : Int) (wrap64 ((rd x7_2 (ji27)) + (rd l0 x9_2)))) | ((with_reducible refine gate_store (t := 3) (p := 105) rfl ?_); (try (rw [drewN_self w73]; generalize hq_ : World.drewN w73 _ = w73; have n0_ := Aside0.mk (Kd.R_at hq_ HO_6.out); have n1_ := Aside0.mk (Kd.R_at hq_ HO_7.out); have n2_ := Aside0.mk (below_at hq_ HB.out); clear hq_ HO_6 HO_7 HB; have HO_6 := n0_; have HO_7 := n1_; have HB := n2_; clear n0_ n1_ n2_; (try (have n_ := Aside0.mk (Kd.R_mono (ok' := (fun k_ => some k_ ≠ (.slice (some ⟨go18, 0, none⟩) x6_2.length co18 : Value).ownBlock)) HO_7.out (fun k_ hk => hk.2)); clear HO_7; have HO_7 := n_; clear n_)); (try (obtain ⟨hy74_, hz74_⟩ := Kd.R_celln 0 HO_7.out (x8_1 : Int) (of_decide_eq_true (by first | (with_reducible assumption) | assumption)) (of_decide_eq_true (by first | (with_reducible assumption) | assumption)))); (try (have HP74 := Kd.R_putg HO_7.out (x8_1 : Int) (wrap64 ((rd x7_2 (ji27)) + (rd l0 x9_2))))))); refine store_event (t := 3) (p := 105) (v := ?vo_w75) (w1 := (w73.setCell ⟨go71, (x8_1 : Int).toNat, none⟩ (.int .i64 (wrap64 ((rd x7_2 (ji27)) + (rd l0 x9_2)))))) ?hg ?ho ?hn ?hr ?_; (case ho => rfl); (case hg => rfl); (case hn => rfl); (case hr => first | (go_simp; done) | (go_simp; rfl)); intro w75 hw; have hg : w73.grownBy w75 (some go71) := (by rw [hw]; exact HP74.2); have hp_ : Kd.R (Kd.int .i64) 3 w75 w.heap.size (fun k_ => some k_ ≠ (.slice (some ⟨go18, 0, none⟩) x6_2.length co18 : Value).ownBlock) (.slice (some ⟨go71, 0, none⟩) x7_2.length co33) y433 := (by rw [hw, Ny433.out]; exact HP74.1); clear HP74; have n0_ := Aside0.mk (Kd.R_after (v := (.slice (some ⟨go71, 0, none⟩) x7_2.length co33)) (v1 := (.slice (some ⟨go71, 0, none⟩) x7_2.length co33)) (ok := (fun _ => True)) (by (with_reducible repeat (first | apply Kd.R_alloc | apply Kd.R_drewN | apply Kd.R_drew)); exact Kd.R_mono HO_6.out (fun _ hk => ⟨trivial, hk⟩)) hg (.inl rfl)); have n1_ := Aside0.mk (hp_); have n2_ := Aside0.mk ((by rw [hw]; exact below_set (HB.out) GB71.out : Below w.heap.size w w75)); clear HO_6; clear HO_7; clear HB; have HO_6 := n0_; have HO_7 := n1_; have HB := n2_; clear n0_ n1_ n2_; clear hg hw hp_)); try go_wp2_with (first | ((with_reducible refine gate_store (t := 3) (p := 101) rfl ?_); (try (rw [drewN_self wc]; generalize hq_ : World.drewN wc _ = wc; have n0_ := Aside0.mk (Kd.R_at hq_ HO_6.out); have n1_ := Aside0.mk (Kd.R_at hq_ HO_7.out); have n2_ := Aside0.mk (below_at hq_ HB.out); clear hq_ HO_6 HO_7 HB; have HO_6 := n0_; have HO_7 := n1_; have HB := n2_; clear n0_ n1_ n2_; (try (have HP72 := Kd.R_putg HO_6.out (x8_1 : Int) (rd x6_2 (ji27)))))); refine store_event (t := 3) (p := 101) (v := ?vo_w73) (w1 := (wc.setCell ⟨go18, (x8_1 : Int).toNat, none⟩ (.int .i64 (rd x6_2 (ji27))))) ?hg ?ho ?hn ?hr ?_; (case ho => rfl); (case hg => rfl); (case hn => rfl); (case hr => first | (go_simp; done) | (go_simp; rfl)); intro w73 hw; have hg : wc.grownBy w73 (some go18) := (by rw [hw]; exact HP72.2); have hp_ : Kd.R (Kd.int .i64) 3 w73 w.heap.size (fun k_ => some k_ ≠ (.slice (some ad417) x7_2.length co33 : Value).ownBlock) (.slice (some ⟨go18, 0, none⟩) x6_2.length co18) y432 := (by rw [hw, Ny432.out]; exact HP72.1); clear HP72; have n0_ := Aside0.mk (hp_); have n1_ := Aside0.mk (Kd.R_after (v := (.slice (some ⟨go18, 0, none⟩) x6_2.length co18)) (v1 := (.slice (some ⟨go18, 0, none⟩) x6_2.length co18)) (ok := (fun _ => True)) (by (with_reducible repeat (first | apply Kd.R_alloc | apply Kd.R_drewN | apply Kd.R_drew)); exact Kd.R_mono HO_7.out (fun _ hk => ⟨trivial, hk⟩)) hg (.inl rfl)); have n2_ := Aside0.mk ((by rw [hw]; exact below_set (HB.out) GB18.out : Below w.heap.size w w73)); clear HO_6; clear HO_7; clear HB; have HO_6 := n0_; have HO_7 := n1_; have HB := n2_; clear n0_ n1_ n2_; clear hg hw hp_; have p71 : 0 ≤ (x8_1 : Int) := of_decide_eq_true (by first | (with_reducible assumption) | assumption); have q71 : (x8_1 : Int) < ((x7_2.length : Int) : Int) := of_decide_eq_true (by first | (with_reducible assumption) | assumption); obtain ⟨go71, co71, eo71, gb71, gl71, cl71, HG71⟩ := Kd.R_form HO_7.out (by omega); (first | cases eo71 | (injection eo71 with ea_ en_ ec_; (first | subst ea_ | (injection ea_ with ea_; subst ea_)); subst ec_; clear en_)); have GB71 := Aside0.mk gb71; have GG71 := Aside0.mk HG71; clear gb71 gl71 HG71; (first | simp only [add_plain] at hx431_0 | skip); obtain ⟨hx71_0, hf71_0⟩ := Kd.R_celln 0 HO_7.out (x8_1 : Int) p71 q71; replace p71 := eq_true p71; replace q71 := eq_true q71; have n_ := Aside0.mk (Kd.R_mono (ok' := (fun k_ => some k_ ≠ (.slice (some ⟨go18, 0, none⟩) x6_2.length co18 : Value).ownBlock)) HO_7.out (fun k_ hk => hk.2)); clear HO_7; have HO_7 := n_; clear n_; obtain ⟨hy74_, hz74_⟩ := Kd.R_celln 0 HO_7.out (x8_1 : Int) (of_decide_eq_true (by first | (with_reducible assumption) | assumption)) (of_decide_eq_true (by first | (with_reducible assumption) | assumption)); have HP74 := Kd.R_putg HO_7.out (x8_1 : Int) (wrap64 ((rd x7_2 (ji27)) + (rd l0 x9_2)))) | ((with_reducible refine gate_store (t := 3) (p := 105) rfl ?_); (try (rw [drewN_self w73]; generalize hq_ : World.drewN w73 _ = w73; have n0_ := Aside0.mk (Kd.R_at hq_ HO_6.out); have n1_ := Aside0.mk (Kd.R_at hq_ HO_7.out); have n2_ := Aside0.mk (below_at hq_ HB.out); clear hq_ HO_6 HO_7 HB; have HO_6 := n0_; have HO_7 := n1_; have HB := n2_; clear n0_ n1_ n2_; (try (have n_ := Aside0.mk (Kd.R_mono (ok' := (fun k_ => some k_ ≠ (.slice (some ⟨go18, 0, none⟩) x6_2.length co18 : Value).ownBlock)) HO_7.out (fun k_ hk => hk.2)); clear HO_7; have HO_7 := n_; clear n_)); (try (obtain ⟨hy74_, hz74_⟩ := Kd.R_celln 0 HO_7.out (x8_1 : Int) (of_decide_eq_true (by first | (with_reducible assumption) | assumption)) (of_decide_eq_true (by first | (with_reducible assumption) | assumption)))); (try (have HP74 := Kd.R_putg HO_7.out (x8_1 : Int) (wrap64 ((rd x7_2 (ji27)) + (rd l0 x9_2))))))); refine store_event (t := 3) (p := 105) (v := ?vo_w75) (w1 := (w73.setCell ⟨go71, (x8_1 : Int).toNat, none⟩ (.int .i64 (wrap64 ((rd x7_2 (ji27)) + (rd l0 x9_2)))))) ?hg ?ho ?hn ?hr ?_; (case ho => rfl); (case hg => rfl); (case hn => rfl); (case hr => first | (go_simp; done) | (go_simp; rfl)); intro w75 hw; have hg : w73.grownBy w75 (some go71) := (by rw [hw]; exact HP74.2); have hp_ : Kd.R (Kd.int .i64) 3 w75 w.heap.size (fun k_ => some k_ ≠ (.slice (some ⟨go18, 0, none⟩) x6_2.length co18 : Value).ownBlock) (.slice (some ⟨go71, 0, none⟩) x7_2.length co33) y433 := (by rw [hw, Ny433.out]; exact HP74.1); clear HP74; have n0_ := Aside0.mk (Kd.R_after (v := (.slice (some ⟨go71, 0, none⟩) x7_2.length co33)) (v1 := (.slice (some ⟨go71, 0, none⟩) x7_2.length co33)) (ok := (fun _ => True)) (by (with_reducible repeat (first | apply Kd.R_alloc | apply Kd.R_drewN | apply Kd.R_drew)); exact Kd.R_mono HO_6.out (fun _ hk => ⟨trivial, hk⟩)) hg (.inl rfl)); have n1_ := Aside0.mk (hp_); have n2_ := Aside0.mk ((by rw [hw]; exact below_set (HB.out) GB71.out : Below w.heap.size w w75)); clear HO_6; clear HO_7; clear HB; have HO_6 := n0_; have HO_7 := n1_; have HB := n2_; clear n0_ n1_ n2_; clear hg hw hp_)))
                                                        (try simp only [← hl6_2])
                                                        go_roundg kj31
                                                        case measure => have := HK1.out; have := HK2.out; have := HJ31.out; omega
                                                        case rel => exact ⟨(y432), (y433), (wrap64 (x9_2 + 1)), (by first | rfl | (simp; done) | (simp [*]; done)), H', ⟨by have := HK1.out; have := HK2.out; have := HJ31.out; omega⟩, ⟨by (try simp only [hl6_2]); (with_reducible repeat (first | apply Kd.R_alloc | apply Kd.R_drewN | apply Kd.R_drew)); exact Kd.R_mono HO_6.out (fun _ hk => hk.2)⟩, ⟨by (try simp only [hl6_2]); (with_reducible repeat (first | apply Kd.R_alloc | apply Kd.R_drewN | apply Kd.R_drew)); exact HO_7.out⟩, ⟨by repeat (first | (with_reducible first | exact HB.out | apply below_alloc | apply pw_below_drewN | apply below_drew1) | exact HB.out)⟩⟩
                                                      · rw [if_neg c69] at H
                                                        have c69b0 : decide ((wrap64 ((rd x7_2 (ji27)) + (rd l0 x9_2))) < (rd x7_2 x8_1)) = false := decide_eq_false c69
                                                        clear c69
                                                        have H' := Aside0.mk H
                                                        clear H
                                                        have p427 : 0 ≤ (x8_1 : Int) := of_decide_eq_true (by first | (with_reducible assumption) | assumption)
                                                        have q427 : x8_1 < (x6_2.length : Int) := of_decide_eq_true (by first | (with_reducible assumption) | assumption)
                                                        obtain ⟨ad427, e427, hx427_0⟩ := Kd.at_int (Kd.R_reads' HO_6.out).2.2 x8_1 p427 q427
                                                        obtain rfl : (⟨go18, 0, none⟩ : Addr) = ad427 := (by injection e427)
                                                        (first | simp only [add_plain] at hx427_0 | simp only [add_at] at hx427_0 | simp only [Addr.add, Nat.zero_add] at hx427_0 | skip)
                                                        replace p427 := eq_true p427
                                                        replace q427 := eq_true q427
                                                        have p430 : 0 ≤ (x8_1 : Int) := of_decide_eq_true (by first | (with_reducible assumption) | assumption)
                                                        have q430 : x8_1 < (x6_2.length : Int) := of_decide_eq_true (by first | (with_reducible assumption) | assumption)
                                                        obtain ⟨ad430, e430, hx430_0⟩ := Kd.at_int (Kd.R_reads' HO_6.out).2.2 x8_1 p430 q430
                                                        obtain rfl : (⟨go18, 0, none⟩ : Addr) = ad430 := (by injection e430)
                                                        (first | simp only [add_plain] at hx430_0 | simp only [add_at] at hx430_0 | simp only [Addr.add, Nat.zero_add] at hx430_0 | skip)
                                                        replace p430 := eq_true p430
                                                        replace q430 := eq_true q430
                                                        have p431 : 0 ≤ (x8_1 : Int) := of_decide_eq_true (by first | (with_reducible assumption) | assumption)
                                                        have q431 : x8_1 < (x7_2.length : Int) := of_decide_eq_true (by first | (with_reducible assumption) | assumption)
                                                        obtain ⟨ad431, e431, hx431_0⟩ := Kd.at_int (Kd.R_reads' HO_7.out).2.2 x8_1 p431 q431
                                                        obtain rfl : ad417 = ad431 := (by injection e431)
                                                        replace p431 := eq_true p431
                                                        replace q431 := eq_true q431
                                                        go_wp2
                                                        repeat (go_quiet (fail); try go_wp2)
                                                        (try simp only [← hl6_2])
                                                        go_roundg kj31
                                                        case measure => have := HK1.out; have := HK2.out; have := HJ31.out; omega
                                                        case rel => exact ⟨(x6_2), (x7_2), (wrap64 (x9_2 + 1)), (by first | rfl | (simp; done) | (simp [*]; done)), H', ⟨by have := HK1.out; have := HK2.out; have := HJ31.out; omega⟩, ⟨by (try simp only [hl6_2]); (with_reducible repeat (first | apply Kd.R_alloc | apply Kd.R_drewN | apply Kd.R_drew)); exact HO_6.out⟩, ⟨by (try simp only [hl6_2]); (with_reducible repeat (first | apply Kd.R_alloc | apply Kd.R_drewN | apply Kd.R_drew)); exact HO_7.out⟩, ⟨by repeat (first | (with_reducible first | exact HB.out | apply below_alloc | apply pw_below_drewN | apply below_drew1) | exact HB.out)⟩⟩
                                                    · rw [if_neg c68] at H
                                                      exact absurd H (by simp)
                                                  · rw [if_neg c67] at H
                                                    have c67b0 : ((rd x6_2 (ji27)) == (rd x6_2 x8_1)) = false := beq_eq_false_iff_ne.mpr c67
                                                    have c67b1 : ((rd x6_2 (ji27)) != (rd x6_2 x8_1)) = true := bne_iff_ne.mpr c67
                                                    have H' := Aside0.mk H
                                                    clear H
                                                    have p427 : 0 ≤ (x8_1 : Int) := of_decide_eq_true (by first | (with_reducible assumption) | assumption)
                                                    have q427 : x8_1 < (x6_2.length : Int) := of_decide_eq_true (by first | (with_reducible assumption) | assumption)
                                                    obtain ⟨ad427, e427, hx427_0⟩ := Kd.at_int (Kd.R_reads' HO_6.out).2.2 x8_1 p427 q427
                                                    obtain rfl : (⟨go18, 0, none⟩ : Addr) = ad427 := (by injection e427)
                                                    (first | simp only [add_plain] at hx427_0 | simp only [add_at] at hx427_0 | simp only [Addr.add, Nat.zero_add] at hx427_0 | skip)
                                                    replace p427 := eq_true p427
                                                    replace q427 := eq_true q427
                                                    have p430 : 0 ≤ (x8_1 : Int) := of_decide_eq_true (by first | (with_reducible assumption) | assumption)
                                                    have q430 : x8_1 < (x6_2.length : Int) := of_decide_eq_true (by first | (with_reducible assumption) | assumption)
                                                    obtain ⟨ad430, e430, hx430_0⟩ := Kd.at_int (Kd.R_reads' HO_6.out).2.2 x8_1 p430 q430
                                                    obtain rfl : (⟨go18, 0, none⟩ : Addr) = ad430 := (by injection e430)
                                                    (first | simp only [add_plain] at hx430_0 | simp only [add_at] at hx430_0 | simp only [Addr.add, Nat.zero_add] at hx430_0 | skip)
                                                    replace p430 := eq_true p430
                                                    replace q430 := eq_true q430
                                                    go_wp2
                                                    repeat (go_quiet (fail); try go_wp2)
                                                    (try simp only [← hl6_2])
                                                    go_roundg kj31
                                                    case measure => have := HK1.out; have := HK2.out; have := HJ31.out; omega
                                                    case rel => exact ⟨(x6_2), (x7_2), (wrap64 (x9_2 + 1)), (by first | rfl | (simp; done) | (simp [*]; done)), H', ⟨by have := HK1.out; have := HK2.out; have := HJ31.out; omega⟩, ⟨by (try simp only [hl6_2]); (with_reducible repeat (first | apply Kd.R_alloc | apply Kd.R_drewN | apply Kd.R_drew)); exact HO_6.out⟩, ⟨by (try simp only [hl6_2]); (with_reducible repeat (first | apply Kd.R_alloc | apply Kd.R_drewN | apply Kd.R_drew)); exact HO_7.out⟩, ⟨by repeat (first | (with_reducible first | exact HB.out | apply below_alloc | apply pw_below_drewN | apply below_drew1) | exact HB.out)⟩⟩
                                              · rw [if_neg c58] at H
                                                exact absurd H (by simp)
                                            · rw [if_neg c57] at H
                                              exact absurd H (by simp)
                                    · rw [if_neg c31] at H
                                      exact absurd H (by simp)
                                  · rw [if_neg c30] at H
                                    exact absurd H (by simp)
                                · rw [if_neg c29] at H
                                  exact absurd H (by simp)
                              · rw [if_neg c28] at H
                                exact absurd H (by simp)
                          · rw [if_neg c22] at H
                            exact absurd H (by simp)
                        · rw [if_neg c21] at H
                          have c21b0 : decide (x9_2 < (l0.length : Int)) = false := decide_eq_false c21
                          clear c21
                          have H' := Aside0.mk H
                          clear H
                          go_wp2
                          repeat (go_quiet (fail); try go_wp2)
                          (try simp only [← hl6_2])
                          go_roundg k2
                          case measure => have := HK1.out; have := HK2.out; omega
                          case rel => exact ⟨(x6_2), (x7_2), (wrap64 (x8_1 + 1)), (by first | rfl | (simp; done) | (simp [*]; done)), H', ⟨by have := HK1.out; have := HK2.out; omega⟩, ⟨by (try simp only [hl6_2]); (with_reducible repeat (first | apply Kd.R_alloc | apply Kd.R_drewN | apply Kd.R_drew)); exact HO_6.out⟩, ⟨by (try simp only [hl6_2]); (with_reducible repeat (first | apply Kd.R_alloc | apply Kd.R_drewN | apply Kd.R_drew)); exact HO_7.out⟩, ⟨by repeat (first | (with_reducible first | exact HB.out | apply below_alloc | apply pw_below_drewN | apply below_drew1) | exact HB.out)⟩⟩
                  · rw [if_neg c17] at H
                    exact absurd H (by simp)
                · rw [if_neg c16] at H
                  exact absurd H (by simp)
              · rw [if_neg c15] at H
                have c15b0 : decide (x8_1 < (ji5)) = false := decide_eq_false c15
                clear c15
                have c76b0 := eq_true (of_decide_eq_true (by first | (with_reducible assumption) | assumption) : 0 ≤ (l0.length : Int))
                have c77b0 := eq_true (of_decide_eq_true (by first | (with_reducible assumption) | assumption) : 0 ≤ (ji5))
                obtain ⟨ji78, hji78⟩ : ∃ j_ : Int, (wrap64 ((ji5) - 1)) = j_ := ⟨_, rfl⟩
                replace H : (if 0 ≤ (ji78) then (if (ji78) < (x6_1.length : Int) then (some (rd x6_1 (ji78))) else (none)) else (none)) = some r := by first | (rw [hji78] at H; exact H) | (simp only [hji78] at H ⊢; exact H)
                have hji78w : (IntKind.i64.wrap ((ji5) - 1)) = ji78 := (i64_w _).trans hji78
                by_cases c79 : 0 ≤ (ji78)
                · rw [if_pos c79] at H
                  have c79b0 : decide (0 ≤ (ji78)) = true := decide_eq_true c79
                  clear c79
                  by_cases c80 : (ji78) < (x6_1.length : Int)
                  · rw [if_pos c80] at H
                    have c80b0 : decide ((ji78) < (x6_1.length : Int)) = true := decide_eq_true c80
                    clear c80
                    obtain rfl := Option.some.inj H
                    obtain ⟨Ao81, co81, eo81⟩ := Kd.R_slice HO_6.out
                    subst eo81
                    have p414 : 0 ≤ ((ji78) : Int) := of_decide_eq_true (by first | (with_reducible assumption) | assumption)
                    have q414 : (ji78) < (x6_1.length : Int) := of_decide_eq_true (by first | (with_reducible assumption) | assumption)
                    obtain ⟨ad414, e414, hx414_0⟩ := Kd.at_int (Kd.R_reads' HO_6.out).2.2 (ji78) p414 q414
                    cases e414
                    replace p414 := eq_true p414
                    replace q414 := eq_true q414
                    go_wp2
                    repeat (go_quiet (fail); try go_wp2)
                    go_ret
                    exact ⟨by first | rfl | (simp [errW_none, errW_some] <;> rfl) | (simp only [← hji5, ← hji5, ← hji78]; first | rfl | (simp [errW_none, errW_some] <;> rfl)) | (simp [*, errW_none, errW_some] <;> rfl), by repeat (first | (with_reducible first | exact HB.out | apply below_alloc | apply pw_below_drewN | apply below_drew1) | exact HB.out)⟩
                  · rw [if_neg c80] at H
                    exact absurd H (by simp)
                · rw [if_neg c79] at H
                  exact absurd H (by simp)
            · rw [if_neg c13] at H
              exact absurd H (by simp)
      · rw [if_neg c7] at H
        exact absurd H (by simp)
    · rw [if_neg c6] at H
      exact absurd H (by simp)
  · replace c4 := Bool.eq_false_iff.mpr c4
    subst c4
    have H1 : (some (-1)) = some r := by rw [if_neg (show ¬ (false = true) by decide)] at H; exact H
    clear H
    have H := H1
    clear H1
    obtain rfl := Option.some.inj H
    go_enter Try.func25, Try.ntmps25
    go_wp2_with (first | (go_at_call 10; (with_reducible refine (spec_LengthsOk.calls k _ _ l0 a1 false _ ?side1 ?side2 A3.out).mono ?_); (case side1 => repeat (first | exact HR0.out | (with_reducible refine Kd.C_alloc ?_ _) | (with_reducible refine Kd.C_drewN ?_ _) | (with_reducible refine Kd.C_drew ?_))); (case side2 => exact HC0.out); rintro e w' ⟨rfl, ⟨nd, rfl⟩⟩; (try first | exact ⟨rfl, _, World.drewN_drewN _ _ _⟩ | exact ⟨rfl, _, Eq.trans (World.drewN_drewN _ _ _) (congrArg (World.drewN _) (Nat.add_assoc _ _ _))⟩)))
    repeat (go_quiet (first | (go_at_call 10; (with_reducible refine (spec_LengthsOk.calls k _ _ l0 a1 false _ ?side1 ?side2 A3.out).mono ?_); (case side1 => repeat (first | exact HR0.out | (with_reducible refine Kd.C_alloc ?_ _) | (with_reducible refine Kd.C_drewN ?_ _) | (with_reducible refine Kd.C_drew ?_))); (case side2 => exact HC0.out); rintro e w' ⟨rfl, ⟨nd, rfl⟩⟩; (try first | exact ⟨rfl, _, World.drewN_drewN _ _ _⟩ | exact ⟨rfl, _, Eq.trans (World.drewN_drewN _ _ _) (congrArg (World.drewN _) (Nat.add_assoc _ _ _))⟩))); try go_wp2_with (first | (go_at_call 10; (with_reducible refine (spec_LengthsOk.calls k _ _ l0 a1 false _ ?side1 ?side2 A3.out).mono ?_); (case side1 => repeat (first | exact HR0.out | (with_reducible refine Kd.C_alloc ?_ _) | (with_reducible refine Kd.C_drewN ?_ _) | (with_reducible refine Kd.C_drew ?_))); (case side2 => exact HC0.out); rintro e w' ⟨rfl, ⟨nd, rfl⟩⟩; (try first | exact ⟨rfl, _, World.drewN_drewN _ _ _⟩ | exact ⟨rfl, _, Eq.trans (World.drewN_drewN _ _ _) (congrArg (World.drewN _) (Nat.add_assoc _ _ _))⟩))))
    go_ret
    exact ⟨by first | rfl | (simp [errW_none, errW_some] <;> rfl) | (simp [*, errW_none, errW_some] <;> rfl), by repeat (first | (with_reducible first | exact HB.out | apply below_alloc | apply pw_below_drewN | apply below_drew1) | exact HB.out)⟩

end Go.Proofs.Ytcjbdbbnbhobbaa.Q
