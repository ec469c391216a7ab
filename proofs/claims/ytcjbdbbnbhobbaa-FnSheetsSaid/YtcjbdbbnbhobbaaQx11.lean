/- The functions that the seat's statements reach, as plain Lean functions, and that the program's calls answer what they say; no condition beyond the values read. Written by a program of this session's over the kit's print. -/
import Derived.Test.YtcjbdbbnbhobbaaQx0
import Derived.Test.YtcjbdbbnbhobbaaQx8
namespace Go.Proofs.Ytcjbdbbnbhobbaa.Q
open Go.RowKit Go.Proofs.YtcjbdbbnbhobbaaW.PrintWords Go.Proofs.YtcjbdbbnbhobbaaW.PrintLast Go.Proofs.YtcjbdbbnbhobbaaW.PrintMore
attribute [local go_sem] max2_int min2_int max_two min_two max_three min_three max_four min_four   -- for this text's walks alone
set_option linter.unusedVariables false
set_option linter.unusedSimpArgs false

/-! ### slices_swapRangeCmpFunc_int: function 53; not told: no call answers -/
def slices_swapRangeCmpFunc_int.f : Nat → List Int → Int → Int → Int → List Int → Option (List Int) := fun _ _ _ _ _ _ => none
theorem slices_swapRangeCmpFunc_int.mono : ∀ a0 a1 a2 a3 a4 k, LeO (slices_swapRangeCmpFunc_int.f k a0 a1 a2 a3 a4) (slices_swapRangeCmpFunc_int.f (k + 1) a0 a1 a2 a3 a4) := fun _ _ _ _ _ _ => LeO.none _
theorem slices_swapRangeCmpFunc_int.calls (k : Nat) (P0_ : Nat → Prop) (u9000_ : Value) (l0 : List Int) (a1 : Int) (a2 : Int) (a3 : Int) (g : Nat) (s4_0 : List Int) (r : List Int) (w0 w : World) (hI : IsS22 w0 w g s4_0) (hB : Below w0.heap.size w0 w) (ho0 : Kd.R (Kd.int .i64) 3 w w0.heap.size P0_ u9000_ l0) (h_ : slices_swapRangeCmpFunc_int.f k l0 a1 a2 a3 s4_0 = some r) :
    Calls Try.prog 53 #[u9000_, .int .i64 a1, .int .i64 a2, .int .i64 a3, .func (.func 36) #[] #[.pointer (some ⟨g, 0, none⟩)]] w fun e w' => e = .returned (.tuple #[]) ∧ IsS22 w0 w' g s4_0 ∧ Kd.R (Kd.int .i64) 3 w' w0.heap.size (fun k_ => (P0_ k_ ∨ w.heap.size ≤ k_)) u9000_ r ∧ Below w0.heap.size w0 w' ∧ Kept w w' (fun k_ => (P0_ k_) ∨ k_ = g) := by
  exact absurd h_ (by simp [slices_swapRangeCmpFunc_int.f])

/-! ### slices_rotateCmpFunc_int: function 52; not told: no call answers -/
def slices_rotateCmpFunc_int.f : Nat → List Int → Int → Int → Int → List Int → Option (List Int) := fun _ _ _ _ _ _ => none
theorem slices_rotateCmpFunc_int.mono : ∀ a0 a1 a2 a3 a4 k, LeO (slices_rotateCmpFunc_int.f k a0 a1 a2 a3 a4) (slices_rotateCmpFunc_int.f (k + 1) a0 a1 a2 a3 a4) := fun _ _ _ _ _ _ => LeO.none _
theorem slices_rotateCmpFunc_int.calls (k : Nat) (P0_ : Nat → Prop) (u9000_ : Value) (l0 : List Int) (a1 : Int) (a2 : Int) (a3 : Int) (g : Nat) (s4_0 : List Int) (r : List Int) (w0 w : World) (hI : IsS22 w0 w g s4_0) (hB : Below w0.heap.size w0 w) (ho0 : Kd.R (Kd.int .i64) 3 w w0.heap.size P0_ u9000_ l0) (h_ : slices_rotateCmpFunc_int.f k l0 a1 a2 a3 s4_0 = some r) :
    Calls Try.prog 52 #[u9000_, .int .i64 a1, .int .i64 a2, .int .i64 a3, .func (.func 36) #[] #[.pointer (some ⟨g, 0, none⟩)]] w fun e w' => e = .returned (.tuple #[]) ∧ IsS22 w0 w' g s4_0 ∧ Kd.R (Kd.int .i64) 3 w' w0.heap.size (fun k_ => (P0_ k_ ∨ w.heap.size ≤ k_)) u9000_ r ∧ Below w0.heap.size w0 w' ∧ Kept w w' (fun k_ => (P0_ k_) ∨ k_ = g) := by
  exact absurd h_ (by simp [slices_rotateCmpFunc_int.f])

/-! ### slices_symMergeCmpFunc_int: function 50; not told: no call answers -/
def slices_symMergeCmpFunc_int.f : Nat → List Int → Int → Int → Int → List Int → Option (List Int) := fun _ _ _ _ _ _ => none
theorem slices_symMergeCmpFunc_int.mono : ∀ a0 a1 a2 a3 a4 k, LeO (slices_symMergeCmpFunc_int.f k a0 a1 a2 a3 a4) (slices_symMergeCmpFunc_int.f (k + 1) a0 a1 a2 a3 a4) := fun _ _ _ _ _ _ => LeO.none _
theorem slices_symMergeCmpFunc_int.calls (k : Nat) : ∀ (P0_ : Nat → Prop) (u9000_ : Value) (l0 : List Int) (a1 : Int) (a2 : Int) (a3 : Int) (g : Nat) (s4_0 : List Int) (r : List Int) (w0 w : World) (hI : IsS22 w0 w g s4_0) (hB : Below w0.heap.size w0 w) (ho0 : Kd.R (Kd.int .i64) 3 w w0.heap.size P0_ u9000_ l0) (h_ : slices_symMergeCmpFunc_int.f k l0 a1 a2 a3 s4_0 = some r),
    Calls Try.prog 50 #[u9000_, .int .i64 a1, .int .i64 a2, .int .i64 a3, .func (.func 36) #[] #[.pointer (some ⟨g, 0, none⟩)]] w fun e w' => e = .returned (.tuple #[]) ∧ IsS22 w0 w' g s4_0 ∧ Kd.R (Kd.int .i64) 3 w' w0.heap.size (fun k_ => (P0_ k_ ∨ w.heap.size ≤ k_)) u9000_ r ∧ Below w0.heap.size w0 w' ∧ Kept w w' (fun k_ => (P0_ k_) ∨ k_ = g) := by
  intros
  rename_i h_
  exact absurd h_ (by simp [slices_symMergeCmpFunc_int.f])

end Go.Proofs.Ytcjbdbbnbhobbaa.Q
