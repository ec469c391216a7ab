/- The functions that the seat's statements reach, as plain Lean functions, and that the program's calls answer what they say; no condition beyond the values read. Written by a program of this session's over the kit's print. -/
import Derived.Test.YtekcdkefomkgdaaQx0
import Derived.Test.YtekcdkefomkgdaaQx1
import Derived.Test.YtekcdkefomkgdaaQx4
import Derived.Test.YtekcdkefomkgdaaQx9
import Derived.Test.YtekcdkefomkgdaaQx10
import Derived.Test.YtekcdkefomkgdaaQx15
import Derived.Test.YtekcdkefomkgdaaQx16
import Derived.Test.YtekcdkefomkgdaaQx17
import Derived.Test.YtekcdkefomkgdaaQx18
namespace Go.Proofs.Ytekcdkefomkgdaa.Q
open Go.RowKit Go.Proofs.YtekcdkefomkgdaaW.PrintWords Go.Proofs.YtekcdkefomkgdaaW.PrintLast Go.Proofs.YtekcdkefomkgdaaW.PrintMore
attribute [local go_sem] max2_int min2_int max_two min_two max_three min_three max_four min_four   -- for this text's walks alone
set_option linter.unusedVariables false
set_option linter.unusedSimpArgs false

/-! ### what a mark in inner rows leaves alone -/
/-- A row of numbers that lay first, rows of numbers made after it, and (Z2) a row of numbers made after these. -/
def Zw (w W : World) (u : Value) (xs : List Int) (v : Value) (ys : List (List Int)) : Prop := ∃ N1 N2, Kd.R (Kd.int .i64) 3 W w.heap.size (fun k => k < N1) u xs ∧ Kd.S (Kd.slice 3 (Kd.int .i64)) 29 W w.heap.size (fun k => N1 ≤ k ∧ k < N2) v ys ∧ N2 ≤ W.heap.size
def Z2 (w W : World) (u : Value) (xs : List Int) (v : Value) (ys : List (List Int)) (g : Value) (zs : List Int) : Prop := ∃ N1 N2, Kd.R (Kd.int .i64) 3 W w.heap.size (fun k => k < N1) u xs ∧ Kd.S (Kd.slice 3 (Kd.int .i64)) 29 W w.heap.size (fun k => N1 ≤ k ∧ k < N2) v ys ∧ Kd.R (Kd.int .i64) 3 W w.heap.size (fun k => N2 ≤ k) g zs
theorem Zw.new {w Wc W1 : World} {u v : Value} {xs : List Int} {ys : List (List Int)} {ok1 ok2 : Nat → Prop} (hu : Kd.R (Kd.int .i64) 3 Wc w.heap.size ok1 u xs) (ho : Kd.S (Kd.slice 3 (Kd.int .i64)) 29 W1 Wc.heap.size ok2 v ys) (hb : Below Wc.heap.size Wc W1) (hs : w.heap.size ≤ Wc.heap.size) : Zw w W1 u xs v ys :=
  ⟨Wc.heap.size, W1.heap.size, Kd.R_below (Kd.R_reok rfl hu (fun k hk => Kd.R_lt hu k hk)) hb, Kd.S_lower (Kd.S_mono (Kd.S_bound ho) (fun k hk => ⟨hk.2.1, hk.2.2.1⟩)) hs, Nat.le_refl _⟩
theorem Z2.new {w Wc W1 : World} {u v g : Value} {xs zs : List Int} {ys : List (List Int)} {ok2 : Nat → Prop} (hz : Zw w Wc u xs v ys) (hg : Kd.R (Kd.int .i64) 3 W1 Wc.heap.size ok2 g zs) (hb : Below Wc.heap.size Wc W1) (hs : w.heap.size ≤ Wc.heap.size) : Z2 w W1 u xs v ys g zs := by
  obtain ⟨N1, N2, h1, h2, h3⟩ := hz
  exact ⟨N1, N2, Kd.R_below h1 hb, Kd.S_below h2 hb, Kd.R_lower (Kd.R_reok rfl hg (fun k hk => Nat.le_trans h3 (Kd.R_base hg k hk))) hs⟩
theorem Zw.below {w W W1 : World} {u v : Value} {xs : List Int} {ys : List (List Int)} (h : Zw w W u xs v ys) (hb : Below W.heap.size W W1) : Zw w W1 u xs v ys := by
  obtain ⟨N1, N2, h1, h2, h3⟩ := h
  exact ⟨N1, N2, Kd.R_below h1 hb, Kd.S_below h2 hb, Nat.le_trans h3 hb.size⟩
theorem Zw.alloc {w W : World} {u v : Value} {xs : List Int} {ys : List (List Int)} (h : Zw w W u xs v ys) (o : Obj) : Zw w (W.alloc o) u xs v ys := h.below (below_alloc (Below.refl _ _) o)
theorem Zw.drew {w W : World} {u v : Value} {xs : List Int} {ys : List (List Int)} (h : Zw w W u xs v ys) : Zw w W.drew u xs v ys := h.below (below_drew (Below.refl _ _))
theorem Zw.drewN {w W : World} {u v : Value} {xs : List Int} {ys : List (List Int)} (h : Zw w W u xs v ys) (m : Nat) : Zw w (W.drewN m) u xs v ys := h.below (pw_below_drewN (Below.refl _ _) m)
theorem Z2.below {w W W1 : World} {u v g : Value} {xs zs : List Int} {ys : List (List Int)} (h : Z2 w W u xs v ys g zs) (hb : Below W.heap.size W W1) : Z2 w W1 u xs v ys g zs := by
  obtain ⟨N1, N2, h1, h2, h3⟩ := h
  exact ⟨N1, N2, Kd.R_below h1 hb, Kd.S_below h2 hb, Kd.R_below h3 hb⟩
theorem Z2.alloc {w W : World} {u v g : Value} {xs zs : List Int} {ys : List (List Int)} (h : Z2 w W u xs v ys g zs) (o : Obj) : Z2 w (W.alloc o) u xs v ys g zs := h.below (below_alloc (Below.refl _ _) o)
theorem Z2.drew {w W : World} {u v g : Value} {xs zs : List Int} {ys : List (List Int)} (h : Z2 w W u xs v ys g zs) : Z2 w W.drew u xs v ys g zs := h.below (below_drew (Below.refl _ _))
theorem Z2.drewN {w W : World} {u v g : Value} {xs zs : List Int} {ys : List (List Int)} (h : Z2 w W u xs v ys g zs) (m : Nat) : Z2 w (W.drewN m) u xs v ys g zs := h.below (pw_below_drewN (Below.refl _ _) m)
theorem laws_markIntSS.callsZ (k : Nat) (u v g : Value) (xs zs : List Int) (ys : List (List Int)) (a1 r : Int) (w W : World) (hB : Below w.heap.size w W) (hz : Z2 w W u xs v ys g zs) (h : laws_markIntSS.f k ys a1 = some r) :
    Calls Try.prog 17 #[v, .int .i64 a1] W fun e w' => e = .returned (.int .i64 r) ∧ Kd.R (Kd.int .i64) 3 w' w.heap.size (fun _ => True) u xs ∧ Kd.R (Kd.int .i64) 3 w' w.heap.size (fun _ => True) g zs ∧ Below w.heap.size w w' := by
  obtain ⟨N1, N2, h1, h2, h3⟩ := hz
  refine (laws_markIntSS.calls k v ys a1 r _ w.heap.size w W hB (Nat.le_refl _) h2 h).mono ?_
  rintro e w' ⟨rfl, hb, hk⟩
  exact ⟨rfl, Kd.R_mono (Kd.R_kept h1 hk (fun k h4 h5 => absurd h4 (Nat.not_lt.2 h5.1))) (fun _ _ => trivial), Kd.R_mono (Kd.R_kept h3 hk (fun k h4 h5 => absurd h5.2 (Nat.not_lt.2 h4))) (fun _ _ => trivial), hb⟩
/-! ### laws_FnExactPointsOf: function 5 -/
def laws_FnExactPointsOf.j0 : Nat → List (List Int) → Int → List Int → List Int → Bool → Option (Bool)
  | 0, _, _, _, _, _ => none
  | k + 1, x0, x1, x6, x8, x46 => if x46 = true then (some false) else ((laws_markIntS.f k x8 1).bind fun bt222 => ((laws_heldIntS.f k bt222.2 1).bind fun t224 => (if t224 < 0 then (some false) else (if t224 = bt222.1 then ((laws_toIntSS.f k x0).bind fun t225 => ((impl_PointsOf.f k t225 x1).bind fun t228 => ((laws_eqIntS.f k t228 x6).bind fun t231 => (if t231 = true then ((laws_heldIntS.f k bt222.2 1).bind fun t232 => (if t232 < 0 then (some false) else (if t232 = bt222.1 then (some true) else (some false)))) else (some false))))) else (some false)))))
def laws_FnExactPointsOf.f (k : Nat) (l0 : List (List Int)) (a1 : Int) : Option (Bool) := (laws_szIntSS.f k l0 1048576).bind fun t202 => (if t202 < 0 then (some true) else ((laws_toIntSS.f k l0).bind fun t203 => ((spec_PointsOf.f k t203 a1).bind fun t206 => ((laws_toIntSS.f k l0).bind fun t209 => ((impl_PointsOf.f k t209 a1).bind fun t212 => ((laws_eqIntS.f k t212 t206).bind fun t215 => (if t215 = true then ((laws_toIntSS.f k l0).bind fun t216 => ((laws_eqIntSS.f k t209 t216).bind fun t219 => (if t219 = true then ((laws_markIntSS.f k t209 1).bind fun t220 => (if t220 < 0 then (laws_FnExactPointsOf.j0 k l0 a1 t206 t212 true) else ((laws_eqIntS.f k t212 t206).bind fun t221 => (laws_FnExactPointsOf.j0 k l0 a1 t206 t212 (!t221))))) else (some false)))) else (some false))))))))
theorem laws_FnExactPointsOf.mono_l : ∀ k, (∀ y0 y1 y2 y3 y4, LeO (laws_FnExactPointsOf.j0 k y0 y1 y2 y3 y4) (laws_FnExactPointsOf.j0 (k + 1) y0 y1 y2 y3 y4))
  | 0 => fun _ _ _ _ _ r h => by simp [laws_FnExactPointsOf.j0] at h
  | k + 1 => by
    have ih0 := laws_FnExactPointsOf.mono_l k
    · intro y0 y1 y2 y3 y4
      unfold laws_FnExactPointsOf.j0
      repeat' first
      | (with_reducible exact ih0 _ _ _ _ _)
      | (with_reducible exact impl_PointsOf.mono _ _ _)
      | (with_reducible exact laws_eqIntS.mono _ _ _)
      | (with_reducible exact laws_eqIntSS.mono _ _ _)
      | (with_reducible exact laws_heldIntS.mono _ _ _)
      | (with_reducible exact laws_markIntS.mono _ _ _)
      | (with_reducible exact laws_markIntSS.mono _ _ _)
      | (with_reducible exact laws_szIntSS.mono _ _ _)
      | (with_reducible exact laws_toIntSS.mono _ _)
      | (with_reducible exact spec_PointsOf.mono _ _ _)
      | (with_reducible exact LeO.refl _)
      | (with_reducible exact LeO.none _)
      | (with_reducible refine LeO.ite ?_ ?_)
      | (with_reducible refine LeO.bind ?_ (fun _ => ?_))
      | exact ih0 _ _ _ _ _
      | exact impl_PointsOf.mono _ _ _
      | exact laws_eqIntS.mono _ _ _
      | exact laws_eqIntSS.mono _ _ _
      | exact laws_heldIntS.mono _ _ _
      | exact laws_markIntS.mono _ _ _
      | exact laws_markIntSS.mono _ _ _
      | exact laws_szIntSS.mono _ _ _
      | exact laws_toIntSS.mono _ _
      | exact spec_PointsOf.mono _ _ _
      | exact LeO.none _
      | refine LeO.ite ?_ ?_
      | refine LeO.bind ?_ (fun _ => ?_)
theorem laws_FnExactPointsOf.mono : ∀ a0 a1 k, LeO (laws_FnExactPointsOf.f k a0 a1) (laws_FnExactPointsOf.f (k + 1) a0 a1) := by
  intro a0 a1 k
  have ih0 := laws_FnExactPointsOf.mono_l k
  unfold laws_FnExactPointsOf.f
  repeat' first
      | (with_reducible exact ih0 _ _ _ _ _)
      | (with_reducible exact impl_PointsOf.mono _ _ _)
      | (with_reducible exact laws_eqIntS.mono _ _ _)
      | (with_reducible exact laws_eqIntSS.mono _ _ _)
      | (with_reducible exact laws_heldIntS.mono _ _ _)
      | (with_reducible exact laws_markIntS.mono _ _ _)
      | (with_reducible exact laws_markIntSS.mono _ _ _)
      | (with_reducible exact laws_szIntSS.mono _ _ _)
      | (with_reducible exact laws_toIntSS.mono _ _)
      | (with_reducible exact spec_PointsOf.mono _ _ _)
      | (with_reducible exact LeO.refl _)
      | (with_reducible exact LeO.none _)
      | (with_reducible refine LeO.ite ?_ ?_)
      | (with_reducible refine LeO.bind ?_ (fun _ => ?_))
      | exact ih0 _ _ _ _ _
      | exact impl_PointsOf.mono _ _ _
      | exact laws_eqIntS.mono _ _ _
      | exact laws_eqIntSS.mono _ _ _
      | exact laws_heldIntS.mono _ _ _
      | exact laws_markIntS.mono _ _ _
      | exact laws_markIntSS.mono _ _ _
      | exact laws_szIntSS.mono _ _ _
      | exact laws_toIntSS.mono _ _
      | exact spec_PointsOf.mono _ _ _
      | exact LeO.none _
      | refine LeO.ite ?_ ?_
      | refine LeO.bind ?_ (fun _ => ?_)
set_option maxHeartbeats 8000000 in
set_option maxRecDepth 100000 in
theorem laws_FnExactPointsOf.calls (k : Nat) (A0 : Option Addr) (c0 : Nat) (l0 : List (List Int)) (a1 : Int) (r : Bool) (w : World) (hr0 : Kd.C (Kd.slice 3 (Kd.int .i64)) w A0 l0.length l0) (hc0 : l0.length ≤ c0) (hr_ : r = true) (h : laws_FnExactPointsOf.f k l0 a1 = some r) :
    Calls Try.prog 5 #[.slice A0 l0.length c0, .int .i64 a1] w fun e w' => e = .returned (.bool r) ∧ Below w.heap.size w w' := by
  have HR_ := Aside0.mk hr_
  clear hr_
  have HR0 := Aside0.mk hr0
  have HC0 := Aside0.mk hc0
  clear hr0 hc0
  have HB := Aside0.mk (Below.refl w.heap.size w)
  have H : ((laws_szIntSS.f k l0 1048576).bind fun t202 => (if t202 < 0 then (some true) else ((laws_toIntSS.f k l0).bind fun t203 => ((spec_PointsOf.f k t203 a1).bind fun t206 => ((laws_toIntSS.f k l0).bind fun t209 => ((impl_PointsOf.f k t209 a1).bind fun t212 => ((laws_eqIntS.f k t212 t206).bind fun t215 => (if t215 = true then ((laws_toIntSS.f k l0).bind fun t216 => ((laws_eqIntSS.f k t209 t216).bind fun t219 => (if t219 = true then ((laws_markIntSS.f k t209 1).bind fun t220 => (if t220 < 0 then (laws_FnExactPointsOf.j0 k l0 a1 t206 t212 true) else ((laws_eqIntS.f k t212 t206).bind fun t221 => (laws_FnExactPointsOf.j0 k l0 a1 t206 t212 (!t221))))) else (some false)))) else (some false))))))))) = some r := h
  clear h
  replace H := Option.bind_eq_some_iff.mp H
  obtain ⟨t202, A30, H⟩ := H
  replace H : (if t202 < 0 then (some true) else ((laws_toIntSS.f k l0).bind fun t203 => ((spec_PointsOf.f k t203 a1).bind fun t206 => ((laws_toIntSS.f k l0).bind fun t209 => ((impl_PointsOf.f k t209 a1).bind fun t212 => ((laws_eqIntS.f k t212 t206).bind fun t215 => (if t215 = true then ((laws_toIntSS.f k l0).bind fun t216 => ((laws_eqIntSS.f k t209 t216).bind fun t219 => (if t219 = true then ((laws_markIntSS.f k t209 1).bind fun t220 => (if t220 < 0 then (laws_FnExactPointsOf.j0 k l0 a1 t206 t212 true) else ((laws_eqIntS.f k t212 t206).bind fun t221 => (laws_FnExactPointsOf.j0 k l0 a1 t206 t212 (!t221))))) else (some false)))) else (some false)))))))) = some r := H
  have A3 := Aside0.mk A30
  clear A30
  by_cases c4 : t202 < 0
  · rw [if_pos c4] at H
    have c4b0 : decide (t202 < 0) = true := decide_eq_true c4
    clear c4
    obtain rfl := Option.some.inj H
    go_enter Try.func5, Try.ntmps5
    go_wp2_with (first | ((with_reducible refine gate_callee (f := 7) rfl ?_); refine goesL_ (some 15) rfl rfl Try.func7 (by kernel_rfl) rfl #[.slice A0 l0.length c0, .int .i64 1048576] rfl (by (try simp only [List.map_toArray, List.map_cons, List.map_nil]); first | done | rfl | (simp only [List.length_drop, List.length_take]; rfl)) ?_; (with_reducible refine (laws_szIntSS.calls k _ _ l0 1048576 t202 _ ?side1 ?side2 A3.out).mono ?_); (case side1 => repeat (first | exact HR0.out | (with_reducible refine Kd.C_alloc ?_ _) | (with_reducible refine Kd.C_drewN ?_ _) | (with_reducible refine Kd.C_drew ?_))); (case side2 => exact HC0.out); rintro e w' ⟨rfl, ⟨nd, rfl⟩⟩; refine ⟨_, rfl, ?_⟩))
    go_ret
    exact ⟨by first | rfl | (simp [errW_none, errW_some] <;> rfl) | (simp [*, errW_none, errW_some] <;> rfl), by repeat (first | (with_reducible first | exact HB.out | apply below_alloc | apply pw_below_drewN | apply below_drew1) | exact HB.out)⟩
  · rw [if_neg c4] at H
    have c4b0 : decide (t202 < 0) = false := decide_eq_false c4
    clear c4
    replace H := Option.bind_eq_some_iff.mp H
    obtain ⟨t203, A50, H⟩ := H
    replace H : ((spec_PointsOf.f k t203 a1).bind fun t206 => ((laws_toIntSS.f k l0).bind fun t209 => ((impl_PointsOf.f k t209 a1).bind fun t212 => ((laws_eqIntS.f k t212 t206).bind fun t215 => (if t215 = true then ((laws_toIntSS.f k l0).bind fun t216 => ((laws_eqIntSS.f k t209 t216).bind fun t219 => (if t219 = true then ((laws_markIntSS.f k t209 1).bind fun t220 => (if t220 < 0 then (laws_FnExactPointsOf.j0 k l0 a1 t206 t212 true) else ((laws_eqIntS.f k t212 t206).bind fun t221 => (laws_FnExactPointsOf.j0 k l0 a1 t206 t212 (!t221))))) else (some false)))) else (some false)))))) = some r := H
    have A5 := Aside0.mk A50
    clear A50
    replace H := Option.bind_eq_some_iff.mp H
    obtain ⟨t206, A60, H⟩ := H
    replace H : ((laws_toIntSS.f k l0).bind fun t209 => ((impl_PointsOf.f k t209 a1).bind fun t212 => ((laws_eqIntS.f k t212 t206).bind fun t215 => (if t215 = true then ((laws_toIntSS.f k l0).bind fun t216 => ((laws_eqIntSS.f k t209 t216).bind fun t219 => (if t219 = true then ((laws_markIntSS.f k t209 1).bind fun t220 => (if t220 < 0 then (laws_FnExactPointsOf.j0 k l0 a1 t206 t212 true) else ((laws_eqIntS.f k t212 t206).bind fun t221 => (laws_FnExactPointsOf.j0 k l0 a1 t206 t212 (!t221))))) else (some false)))) else (some false))))) = some r := H
    have A6 := Aside0.mk A60
    clear A60
    replace H := Option.bind_eq_some_iff.mp H
    obtain ⟨t209, A70, H⟩ := H
    replace H : ((impl_PointsOf.f k t209 a1).bind fun t212 => ((laws_eqIntS.f k t212 t206).bind fun t215 => (if t215 = true then ((laws_toIntSS.f k l0).bind fun t216 => ((laws_eqIntSS.f k t209 t216).bind fun t219 => (if t219 = true then ((laws_markIntSS.f k t209 1).bind fun t220 => (if t220 < 0 then (laws_FnExactPointsOf.j0 k l0 a1 t206 t212 true) else ((laws_eqIntS.f k t212 t206).bind fun t221 => (laws_FnExactPointsOf.j0 k l0 a1 t206 t212 (!t221))))) else (some false)))) else (some false)))) = some r := H
    have A7 := Aside0.mk A70
    clear A70
    replace H := Option.bind_eq_some_iff.mp H
    obtain ⟨t212, A80, H⟩ := H
    replace H : ((laws_eqIntS.f k t212 t206).bind fun t215 => (if t215 = true then ((laws_toIntSS.f k l0).bind fun t216 => ((laws_eqIntSS.f k t209 t216).bind fun t219 => (if t219 = true then ((laws_markIntSS.f k t209 1).bind fun t220 => (if t220 < 0 then (laws_FnExactPointsOf.j0 k l0 a1 t206 t212 true) else ((laws_eqIntS.f k t212 t206).bind fun t221 => (laws_FnExactPointsOf.j0 k l0 a1 t206 t212 (!t221))))) else (some false)))) else (some false))) = some r := H
    have A8 := Aside0.mk A80
    clear A80
    replace H := Option.bind_eq_some_iff.mp H
    obtain ⟨t215, A90, H⟩ := H
    replace H : (if t215 = true then ((laws_toIntSS.f k l0).bind fun t216 => ((laws_eqIntSS.f k t209 t216).bind fun t219 => (if t219 = true then ((laws_markIntSS.f k t209 1).bind fun t220 => (if t220 < 0 then (laws_FnExactPointsOf.j0 k l0 a1 t206 t212 true) else ((laws_eqIntS.f k t212 t206).bind fun t221 => (laws_FnExactPointsOf.j0 k l0 a1 t206 t212 (!t221))))) else (some false)))) else (some false)) = some r := H
    have A9 := Aside0.mk A90
    clear A90
    by_cases c10 : t215 = true
    · subst c10
      have H1 : ((laws_toIntSS.f k l0).bind fun t216 => ((laws_eqIntSS.f k t209 t216).bind fun t219 => (if t219 = true then ((laws_markIntSS.f k t209 1).bind fun t220 => (if t220 < 0 then (laws_FnExactPointsOf.j0 k l0 a1 t206 t212 true) else ((laws_eqIntS.f k t212 t206).bind fun t221 => (laws_FnExactPointsOf.j0 k l0 a1 t206 t212 (!t221))))) else (some false)))) = some r := by rw [if_pos rfl] at H; exact H
      clear H
      have H := H1
      clear H1
      replace H := Option.bind_eq_some_iff.mp H
      obtain ⟨t216, A110, H⟩ := H
      replace H : ((laws_eqIntSS.f k t209 t216).bind fun t219 => (if t219 = true then ((laws_markIntSS.f k t209 1).bind fun t220 => (if t220 < 0 then (laws_FnExactPointsOf.j0 k l0 a1 t206 t212 true) else ((laws_eqIntS.f k t212 t206).bind fun t221 => (laws_FnExactPointsOf.j0 k l0 a1 t206 t212 (!t221))))) else (some false))) = some r := H
      have A11 := Aside0.mk A110
      clear A110
      replace H := Option.bind_eq_some_iff.mp H
      obtain ⟨t219, A120, H⟩ := H
      replace H : (if t219 = true then ((laws_markIntSS.f k t209 1).bind fun t220 => (if t220 < 0 then (laws_FnExactPointsOf.j0 k l0 a1 t206 t212 true) else ((laws_eqIntS.f k t212 t206).bind fun t221 => (laws_FnExactPointsOf.j0 k l0 a1 t206 t212 (!t221))))) else (some false)) = some r := H
      have A12 := Aside0.mk A120
      clear A120
      by_cases c13 : t219 = true
      · subst c13
        have H1 : ((laws_markIntSS.f k t209 1).bind fun t220 => (if t220 < 0 then (laws_FnExactPointsOf.j0 k l0 a1 t206 t212 true) else ((laws_eqIntS.f k t212 t206).bind fun t221 => (laws_FnExactPointsOf.j0 k l0 a1 t206 t212 (!t221))))) = some r := by rw [if_pos rfl] at H; exact H
        clear H
        have H := H1
        clear H1
        replace H := Option.bind_eq_some_iff.mp H
        obtain ⟨t220, A140, H⟩ := H
        replace H : (if t220 < 0 then (laws_FnExactPointsOf.j0 k l0 a1 t206 t212 true) else ((laws_eqIntS.f k t212 t206).bind fun t221 => (laws_FnExactPointsOf.j0 k l0 a1 t206 t212 (!t221)))) = some r := H
        have A14 := Aside0.mk A140
        clear A140
        have HC15 := Aside0.mk H
        clear H
        go_enter Try.func5, Try.ntmps5
        go_upto_region 14 with (first | ((with_reducible refine gate_callee (f := 7) rfl ?_); refine goesL_ (some 15) rfl rfl Try.func7 (by kernel_rfl) rfl #[.slice A0 l0.length c0, .int .i64 1048576] rfl (by (try simp only [List.map_toArray, List.map_cons, List.map_nil]); first | done | rfl | (simp only [List.length_drop, List.length_take]; rfl)) ?_; (with_reducible refine (laws_szIntSS.calls k _ _ l0 1048576 t202 _ ?side1 ?side2 A3.out).mono ?_); (case side1 => repeat (first | exact HR0.out | (with_reducible refine Kd.C_alloc ?_ _) | (with_reducible refine Kd.C_drewN ?_ _) | (with_reducible refine Kd.C_drew ?_))); (case side2 => exact HC0.out); rintro e w' ⟨rfl, ⟨nd, rfl⟩⟩; refine ⟨_, rfl, ?_⟩) | ((with_reducible refine gate_callee (f := 9) rfl ?_); refine goesL_ (some 19) rfl rfl Try.func9 (by kernel_rfl) rfl #[.slice A0 l0.length c0] rfl (by (try simp only [List.map_toArray, List.map_cons, List.map_nil]); first | done | rfl | (simp only [List.length_drop, List.length_take]; rfl)) ?_; (with_reducible refine (laws_toIntSS.calls k _ _ l0 t203 _ ?side1 ?side2 A5.out).mono ?_); (case side1 => repeat (first | exact HR0.out | (with_reducible refine Kd.C_alloc ?_ _) | (with_reducible refine Kd.C_drewN ?_ _) | (with_reducible refine Kd.C_drew ?_))); (case side2 => exact HC0.out); rintro e w16 ⟨v204, rfl, ho0, hb⟩; refine ⟨_, rfl, ?_⟩; have n0_ := Aside0.mk (Kd.S_lower ho0 (below_size (by repeat (first | (with_reducible first | exact HB.out | apply below_alloc | apply pw_below_drewN | apply below_drew1) | exact HB.out)))); have n1_ := Aside0.mk (below_step (by repeat (first | (with_reducible first | exact HB.out | apply below_alloc | apply pw_below_drewN | apply below_drew1) | exact HB.out)) hb); clear HB; have HO205 := n0_; have HB := n1_; clear n0_ n1_; (try clear hb); (try clear hb2); (try clear hk); (try clear hi); (try clear ho0); obtain ⟨Ao17, co17, eo17⟩ := Kd.S_slice HO205.out; subst eo17) | ((with_reducible refine gate_callee (f := 14) rfl ?_); refine goesL_ (some 21) rfl rfl Try.func14 (by kernel_rfl) rfl #[.slice Ao17 t203.length co17, .int .i64 a1] rfl (by (try simp only [List.map_toArray, List.map_cons, List.map_nil]); first | done | rfl | (simp only [List.length_drop, List.length_take]; rfl)) ?_; (with_reducible refine (spec_PointsOf.calls k _ _ t203 a1 t206 _ ?side1 ?side2 A6.out).mono ?_); (case side1 => repeat (first | exact (Kd.S_reads' HO205.out).2.2 | (with_reducible refine Kd.C_alloc ?_ _) | (with_reducible refine Kd.C_drewN ?_ _) | (with_reducible refine Kd.C_drew ?_))); (case side2 => exact (Kd.S_reads' HO205.out).2.1); rintro e w18 ⟨v207, rfl, ho0, hb⟩; refine ⟨_, rfl, ?_⟩; have n0_ := Aside0.mk (Kd.S_elder' (by (with_reducible repeat (first | apply Kd.S_alloc | apply Kd.S_drewN | apply Kd.S_drew)); exact HO205.out) (Kd.R_base ho0) hb); have n1_ := Aside0.mk (Kd.R_lower ho0 (below_size (by repeat (first | (with_reducible first | exact HB.out | apply below_alloc | apply pw_below_drewN | apply below_drew1) | exact HB.out)))); have n2_ := Aside0.mk (below_step (by repeat (first | (with_reducible first | exact HB.out | apply below_alloc | apply pw_below_drewN | apply below_drew1) | exact HB.out)) hb); clear HO205; clear HB; have HO205 := n0_; have HO208 := n1_; have HB := n2_; clear n0_ n1_ n2_; (try clear hb); (try clear hb2); (try clear hk); (try clear hi); (try clear ho0)) | ((with_reducible refine gate_callee (f := 9) rfl ?_); refine goesL_ (some 23) rfl rfl Try.func9 (by kernel_rfl) rfl #[.slice A0 l0.length c0] rfl (by (try simp only [List.map_toArray, List.map_cons, List.map_nil]); first | done | rfl | (simp only [List.length_drop, List.length_take]; rfl)) ?_; (with_reducible refine (laws_toIntSS.calls k _ _ l0 t209 _ ?side1 ?side2 A7.out).mono ?_); (case side1 => repeat (first | exact (Kd.C_below HR0.out HB.out) | (with_reducible refine Kd.C_alloc ?_ _) | (with_reducible refine Kd.C_drewN ?_ _) | (with_reducible refine Kd.C_drew ?_))); (case side2 => exact HC0.out); rintro e w19 ⟨v210, rfl, ho0, hb⟩; refine ⟨_, rfl, ?_⟩; have z0_ := Aside0.mk (Zw.new (by (with_reducible repeat (first | apply Kd.R_alloc | apply Kd.R_drewN | apply Kd.R_drew)); exact HO208.out) ho0 hb (below_size (by repeat (first | (with_reducible first | exact HB.out | apply below_alloc | apply pw_below_drewN | apply below_drew1) | exact HB.out)))); have n0_ := Aside0.mk (Kd.S_elder' (by (with_reducible repeat (first | apply Kd.S_alloc | apply Kd.S_drewN | apply Kd.S_drew)); exact HO205.out) (Kd.S_base ho0) hb); have n1_ := Aside0.mk (Kd.R_below (by (with_reducible repeat (first | apply Kd.R_alloc | apply Kd.R_drewN | apply Kd.R_drew)); exact HO208.out) hb); have n2_ := Aside0.mk (Kd.S_lower (Kd.S_new' (Kd.S_new' ho0 (Kd.S_lt (by (with_reducible repeat (first | apply Kd.S_alloc | apply Kd.S_drewN | apply Kd.S_drew)); exact HO205.out))) (Kd.R_lt (by (with_reducible repeat (first | apply Kd.R_alloc | apply Kd.R_drewN | apply Kd.R_drew)); exact HO208.out))) (below_size (by repeat (first | (with_reducible first | exact HB.out | apply below_alloc | apply pw_below_drewN | apply below_drew1) | exact HB.out)))); have n3_ := Aside0.mk (below_step (by repeat (first | (with_reducible first | exact HB.out | apply below_alloc | apply pw_below_drewN | apply below_drew1) | exact HB.out)) hb); clear HO205; clear HO208; clear HB; have HO205 := n0_; have HO208 := n1_; have HO211 := n2_; have HB := n3_; clear n0_ n1_ n2_ n3_; (try clear hb); (try clear hb2); (try clear hk); (try clear hi); (try clear ho0); obtain ⟨Ao20, co20, eo20⟩ := Kd.S_slice HO211.out; subst eo20; have HZZ := z0_; clear z0_) | ((with_reducible refine gate_callee (f := 15) rfl ?_); refine goesL_ (some 26) rfl rfl Try.func15 (by kernel_rfl) rfl #[.slice Ao20 t209.length co20, .int .i64 a1] rfl (by (try simp only [List.map_toArray, List.map_cons, List.map_nil]); first | done | rfl | (simp only [List.length_drop, List.length_take]; rfl)) ?_; (with_reducible refine (impl_PointsOf.calls k _ _ t209 a1 t212 _ ?side1 ?side2 A8.out).mono ?_); (case side1 => repeat (first | exact (Kd.S_reads' HO211.out).2.2 | (with_reducible refine Kd.C_alloc ?_ _) | (with_reducible refine Kd.C_drewN ?_ _) | (with_reducible refine Kd.C_drew ?_))); (case side2 => exact (Kd.S_reads' HO211.out).2.1); rintro e w21 ⟨v213, rfl, ho0, hb⟩; refine ⟨_, rfl, ?_⟩; have z0_ := Aside0.mk (Z2.new (by (with_reducible repeat (first | apply Zw.alloc | apply Zw.drewN | apply Zw.drew)); exact HZZ.out) ho0 hb (below_size (by repeat (first | (with_reducible first | exact HB.out | apply below_alloc | apply pw_below_drewN | apply below_drew1) | exact HB.out)))); clear HZZ; have n0_ := Aside0.mk (Kd.S_elder' (by (with_reducible repeat (first | apply Kd.S_alloc | apply Kd.S_drewN | apply Kd.S_drew)); exact HO205.out) (Kd.R_base ho0) hb); have n1_ := Aside0.mk (Kd.R_elder' (by (with_reducible repeat (first | apply Kd.R_alloc | apply Kd.R_drewN | apply Kd.R_drew)); exact HO208.out) (Kd.R_base ho0) hb); have n2_ := Aside0.mk (Kd.S_elder' (by (with_reducible repeat (first | apply Kd.S_alloc | apply Kd.S_drewN | apply Kd.S_drew)); exact HO211.out) (Kd.R_base ho0) hb); have n3_ := Aside0.mk (Kd.R_lower (Kd.R_new' ho0 (Kd.R_lt (by (with_reducible repeat (first | apply Kd.R_alloc | apply Kd.R_drewN | apply Kd.R_drew)); exact HO208.out))) (below_size (by repeat (first | (with_reducible first | exact HB.out | apply below_alloc | apply pw_below_drewN | apply below_drew1) | exact HB.out)))); have n4_ := Aside0.mk (below_step (by repeat (first | (with_reducible first | exact HB.out | apply below_alloc | apply pw_below_drewN | apply below_drew1) | exact HB.out)) hb); clear HO205; clear HO208; clear HO211; clear HB; have HO205 := n0_; have HO208 := n1_; have HO211 := n2_; have HO214 := n3_; have HB := n4_; clear n0_ n1_ n2_ n3_ n4_; (try clear hb); (try clear hb2); (try clear hk); (try clear hi); (try clear ho0); obtain ⟨Ao22, co22, eo22⟩ := Kd.R_slice HO214.out; subst eo22; obtain ⟨Ao23, co23, eo23⟩ := Kd.R_slice HO208.out; subst eo23; have HZZ := z0_; clear z0_) | ((with_reducible refine gate_callee (f := 16) rfl ?_); refine goesL_ (some 29) rfl rfl Try.func16 (by kernel_rfl) rfl #[.slice Ao22 t212.length co22, .slice Ao23 t206.length co23] rfl (by (try simp only [List.map_toArray, List.map_cons, List.map_nil]); first | done | rfl | (simp only [List.length_drop, List.length_take]; rfl)) ?_; (with_reducible refine (laws_eqIntS.calls k _ _ t212 _ _ t206 true _ ?side1 ?side2 ?side3 ?side4 A9.out).mono ?_); (case side1 => repeat (first | exact (Kd.R_reads' HO214.out).2.2 | (with_reducible refine Kd.C_alloc ?_ _) | (with_reducible refine Kd.C_drewN ?_ _) | (with_reducible refine Kd.C_drew ?_))); (case side2 => exact (Kd.R_reads' HO214.out).2.1); (case side3 => repeat (first | exact (Kd.R_reads' HO208.out).2.2 | (with_reducible refine Kd.C_alloc ?_ _) | (with_reducible refine Kd.C_drewN ?_ _) | (with_reducible refine Kd.C_drew ?_))); (case side4 => exact (Kd.R_reads' HO208.out).2.1); rintro e w' ⟨rfl, ⟨nd, rfl⟩⟩; refine ⟨_, rfl, ?_⟩) | ((with_reducible refine gate_callee (f := 9) rfl ?_); refine goesL_ (some 33) rfl rfl Try.func9 (by kernel_rfl) rfl #[.slice A0 l0.length c0] rfl (by (try simp only [List.map_toArray, List.map_cons, List.map_nil]); first | done | rfl | (simp only [List.length_drop, List.length_take]; rfl)) ?_; (with_reducible refine (laws_toIntSS.calls k _ _ l0 t216 _ ?side1 ?side2 A11.out).mono ?_); (case side1 => repeat (first | exact (Kd.C_below HR0.out (by repeat (first | (with_reducible first | exact HB.out | apply below_alloc | apply pw_below_drewN | apply below_drew1) | exact HB.out))) | (with_reducible refine Kd.C_alloc ?_ _) | (with_reducible refine Kd.C_drewN ?_ _) | (with_reducible refine Kd.C_drew ?_))); (case side2 => exact HC0.out); rintro e w24 ⟨v217, rfl, ho0, hb⟩; refine ⟨_, rfl, ?_⟩; have z0_ := Aside0.mk (Z2.below (by (with_reducible repeat (first | apply Z2.alloc | apply Z2.drewN | apply Z2.drew)); exact HZZ.out) hb); clear HZZ; have n0_ := Aside0.mk (Kd.S_elder' (by (with_reducible repeat (first | apply Kd.S_alloc | apply Kd.S_drewN | apply Kd.S_drew)); exact HO205.out) (Kd.S_base ho0) hb); have n1_ := Aside0.mk (Kd.R_below (by (with_reducible repeat (first | apply Kd.R_alloc | apply Kd.R_drewN | apply Kd.R_drew)); exact HO208.out) hb); have n2_ := Aside0.mk (Kd.S_elder' (by (with_reducible repeat (first | apply Kd.S_alloc | apply Kd.S_drewN | apply Kd.S_drew)); exact HO211.out) (Kd.S_base ho0) hb); have n3_ := Aside0.mk (Kd.R_below (by (with_reducible repeat (first | apply Kd.R_alloc | apply Kd.R_drewN | apply Kd.R_drew)); exact HO214.out) hb); have n4_ := Aside0.mk (Kd.S_lower (Kd.S_new' (Kd.S_new' (Kd.S_new' (Kd.S_new' ho0 (Kd.S_lt (by (with_reducible repeat (first | apply Kd.S_alloc | apply Kd.S_drewN | apply Kd.S_drew)); exact HO205.out))) (Kd.R_lt (by (with_reducible repeat (first | apply Kd.R_alloc | apply Kd.R_drewN | apply Kd.R_drew)); exact HO208.out))) (Kd.S_lt (by (with_reducible repeat (first | apply Kd.S_alloc | apply Kd.S_drewN | apply Kd.S_drew)); exact HO211.out))) (Kd.R_lt (by (with_reducible repeat (first | apply Kd.R_alloc | apply Kd.R_drewN | apply Kd.R_drew)); exact HO214.out))) (below_size (by repeat (first | (with_reducible first | exact HB.out | apply below_alloc | apply pw_below_drewN | apply below_drew1) | exact HB.out)))); have n5_ := Aside0.mk (below_step (by repeat (first | (with_reducible first | exact HB.out | apply below_alloc | apply pw_below_drewN | apply below_drew1) | exact HB.out)) hb); clear HO205; clear HO208; clear HO211; clear HO214; clear HB; have HO205 := n0_; have HO208 := n1_; have HO211 := n2_; have HO214 := n3_; have HO218 := n4_; have HB := n5_; clear n0_ n1_ n2_ n3_ n4_ n5_; (try clear hb); (try clear hb2); (try clear hk); (try clear hi); (try clear ho0); obtain ⟨Ao25, co25, eo25⟩ := Kd.S_slice HO218.out; subst eo25; have HZZ := z0_; clear z0_) | ((with_reducible refine gate_callee (f := 11) rfl ?_); refine goesL_ (some 34) rfl rfl Try.func11 (by kernel_rfl) rfl #[.slice Ao20 t209.length co20, .slice Ao25 t216.length co25] rfl (by (try simp only [List.map_toArray, List.map_cons, List.map_nil]); first | done | rfl | (simp only [List.length_drop, List.length_take]; rfl)) ?_; (with_reducible refine (laws_eqIntSS.calls k _ _ t209 _ _ t216 true _ ?side1 ?side2 ?side3 ?side4 A12.out).mono ?_); (case side1 => repeat (first | exact (Kd.S_reads' HO211.out).2.2 | (with_reducible refine Kd.C_alloc ?_ _) | (with_reducible refine Kd.C_drewN ?_ _) | (with_reducible refine Kd.C_drew ?_))); (case side2 => exact (Kd.S_reads' HO211.out).2.1); (case side3 => repeat (first | exact (Kd.S_reads' HO218.out).2.2 | (with_reducible refine Kd.C_alloc ?_ _) | (with_reducible refine Kd.C_drewN ?_ _) | (with_reducible refine Kd.C_drew ?_))); (case side4 => exact (Kd.S_reads' HO218.out).2.1); rintro e w26 ⟨rfl, hb⟩; refine ⟨_, rfl, ?_⟩; have z0_ := Aside0.mk (Z2.below (by (with_reducible repeat (first | apply Z2.alloc | apply Z2.drewN | apply Z2.drew)); exact HZZ.out) hb); clear HZZ; have n0_ := Aside0.mk (Kd.S_below (by (with_reducible repeat (first | apply Kd.S_alloc | apply Kd.S_drewN | apply Kd.S_drew)); exact HO205.out) hb); have n1_ := Aside0.mk (Kd.R_below (by (with_reducible repeat (first | apply Kd.R_alloc | apply Kd.R_drewN | apply Kd.R_drew)); exact HO208.out) hb); have n2_ := Aside0.mk (Kd.S_below (by (with_reducible repeat (first | apply Kd.S_alloc | apply Kd.S_drewN | apply Kd.S_drew)); exact HO211.out) hb); have n3_ := Aside0.mk (Kd.R_below (by (with_reducible repeat (first | apply Kd.R_alloc | apply Kd.R_drewN | apply Kd.R_drew)); exact HO214.out) hb); have n4_ := Aside0.mk (Kd.S_below (by (with_reducible repeat (first | apply Kd.S_alloc | apply Kd.S_drewN | apply Kd.S_drew)); exact HO218.out) hb); have n5_ := Aside0.mk (below_step (by repeat (first | (with_reducible first | exact HB.out | apply below_alloc | apply pw_below_drewN | apply below_drew1) | exact HB.out)) hb); clear HO205; clear HO208; clear HO211; clear HO214; clear HO218; clear HB; have HO205 := n0_; have HO208 := n1_; have HO211 := n2_; have HO214 := n3_; have HO218 := n4_; have HB := n5_; clear n0_ n1_ n2_ n3_ n4_ n5_; (try clear hb); (try clear hb2); (try clear hk); (try clear hi); have HZZ := z0_; clear z0_) | ((with_reducible refine gate_callee (f := 17) rfl ?_); refine goesL_ (some 38) rfl rfl Try.func17 (by kernel_rfl) rfl #[.slice Ao20 t209.length co20, .int .i64 1] rfl (by (try simp only [List.map_toArray, List.map_cons, List.map_nil]); first | done | rfl | (simp only [List.length_drop, List.length_take]; rfl)) ?_; (with_reducible refine (laws_markIntSS.callsZ k (.slice Ao23 t206.length co23) (.slice Ao20 t209.length co20) (.slice Ao22 t212.length co22) t206 t212 t209 1 t220 w _ ?side1 ?side2 A14.out).mono ?_); (case side1 => exact (by repeat (first | (with_reducible first | exact HB.out | apply below_alloc | apply pw_below_drewN | apply below_drew1) | exact HB.out))); (case side2 => exact (by (with_reducible repeat (first | apply Z2.alloc | apply Z2.drewN | apply Z2.drew)); exact HZZ.out)); rintro e w27 ⟨rfl, hz1_, hz3_, hb⟩; refine ⟨_, rfl, ?_⟩; have n1_ := Aside0.mk (Kd.R_reok rfl hz1_ (fun k_ e_ => HO208.out.1 k_ e_)); have n3_ := Aside0.mk (Kd.R_reok rfl hz3_ (fun k_ e_ => HO214.out.1 k_ e_)); have n5_ := Aside0.mk hb; clear HO205 HO208 HO211 HO214 HO218 HB HZZ hz1_ hz3_ hb; have HO208 := n1_; have HO214 := n3_; have HB := n5_; clear n1_ n3_ n5_))
        (try simp only [Act.put, List.setIfInBounds_toArray, List.set_cons_zero, List.set_cons_succ])
        go_cut [46] (fun v46 wc => ∃ (kq : Nat) (x46_14 : Bool), v46 = .bool x46_14 ∧ Aside0 (laws_FnExactPointsOf.j0 kq l0 a1 t206 t212 x46_14 = some r) ∧ Aside0 (kq ≤ k) ∧ Aside0 (Kd.R (Kd.int .i64) 3 wc w.heap.size (fun k_ => some k_ ≠ ((.slice Ao22 t212.length co22) : Value).ownBlock) (.slice Ao23 t206.length co23) t206) ∧ Aside0 (Kd.R (Kd.int .i64) 3 wc w.heap.size (fun k_ => some k_ ≠ ((.slice Ao23 t206.length co23) : Value).ownBlock) (.slice Ao22 t212.length co22) t212) ∧ Aside0 (Below w.heap.size w wc))
        case first =>
          have H := HC15.out
          clear HC15
          by_cases c28 : t220 < 0
          · rw [if_pos c28] at H
            have c28b0 : decide (t220 < 0) = true := decide_eq_true c28
            clear c28
            (first | rw [c28b0] | (simp only [i64_w, i32_w]; rw [c28b0]) | skip)
            have H' := Aside0.mk H
            clear H
            go_wp2
            go_meet
            case rel => exact ⟨_, (true), (by first | rfl | (simp; done) | (simp [*]; done)), H', ⟨by first | omega | exact Nat.le_refl _⟩, ⟨by (with_reducible repeat (first | apply Kd.R_alloc | apply Kd.R_drewN | apply Kd.R_drew)); exact Kd.R_mono HO208.out (fun _ hk => hk.2)⟩, ⟨by (with_reducible repeat (first | apply Kd.R_alloc | apply Kd.R_drewN | apply Kd.R_drew)); exact Kd.R_mono HO214.out (fun _ hk => hk.2)⟩, ⟨by repeat (first | (with_reducible first | exact HB.out | apply below_alloc | apply pw_below_drewN | apply below_drew1) | exact HB.out)⟩⟩
          · rw [if_neg c28] at H
            have c28b0 : decide (t220 < 0) = false := decide_eq_false c28
            clear c28
            (first | rw [c28b0] | (simp only [i64_w, i32_w]; rw [c28b0]) | skip)
            replace H := Option.bind_eq_some_iff.mp H
            obtain ⟨t221, A290, H⟩ := H
            replace H : (laws_FnExactPointsOf.j0 k l0 a1 t206 t212 (!t221)) = some r := H
            have A29 := Aside0.mk A290
            clear A290
            have H' := Aside0.mk H
            clear H
            go_wp2_with (first | (go_at_call 16; (with_reducible refine (laws_eqIntS.calls k _ _ t212 _ _ t206 t221 _ ?side1 ?side2 ?side3 ?side4 A29.out).mono ?_); (case side1 => repeat (first | exact (Kd.R_reads' HO214.out).2.2 | (with_reducible refine Kd.C_alloc ?_ _) | (with_reducible refine Kd.C_drewN ?_ _) | (with_reducible refine Kd.C_drew ?_))); (case side2 => exact (Kd.R_reads' HO214.out).2.1); (case side3 => repeat (first | exact (Kd.R_reads' HO208.out).2.2 | (with_reducible refine Kd.C_alloc ?_ _) | (with_reducible refine Kd.C_drewN ?_ _) | (with_reducible refine Kd.C_drew ?_))); (case side4 => exact (Kd.R_reads' HO208.out).2.1); rintro e w' ⟨rfl, ⟨nd, rfl⟩⟩))
            go_meet
            case rel => exact ⟨_, (!t221), (by first | rfl | (simp; done) | (simp [*]; done)), H', ⟨by first | omega | exact Nat.le_refl _⟩, ⟨by (with_reducible repeat (first | apply Kd.R_alloc | apply Kd.R_drewN | apply Kd.R_drew)); exact Kd.R_mono HO208.out (fun _ hk => hk.2)⟩, ⟨by (with_reducible repeat (first | apply Kd.R_alloc | apply Kd.R_drewN | apply Kd.R_drew)); exact Kd.R_mono HO214.out (fun _ hk => hk.2)⟩, ⟨by repeat (first | (with_reducible first | exact HB.out | apply below_alloc | apply pw_below_drewN | apply below_drew1) | exact HB.out)⟩⟩
        case rest =>
          clear HC15
          try clear c1
          try clear c2
          try clear p2
          try clear c4
          try clear c4b0
          try clear c5
          try clear c7
          try clear c9
          try clear c10
          try clear c11
          try clear c13
          try clear c14
          try clear c15
          try clear c16
          try clear c17
          try clear c28
          try clear c28b0
          obtain ⟨kq, x46_14, rfl, HA, HJ14, HO_6, HO_8, HB⟩ := hcut
          cases kq with
          | zero => exact absurd HA.out (by simp [laws_FnExactPointsOf.j0])
          | succ kj14 =>
            have H := HA.out
            clear HA
            simp only [laws_FnExactPointsOf.j0] at H
            by_cases c30 : x46_14 = true
            · subst c30
              have H1 : (some false) = some r := by rw [if_pos rfl] at H; exact H
              clear H
              have H := H1
              clear H1
              exact absurd ((Option.some.inj H).trans HR_.out) (by decide)
            · replace c30 := Bool.eq_false_iff.mpr c30
              subst c30
              have H1 : ((laws_markIntS.f kj14 t212 1).bind fun bt222 => ((laws_heldIntS.f kj14 bt222.2 1).bind fun t224 => (if t224 < 0 then (some false) else (if t224 = bt222.1 then ((laws_toIntSS.f kj14 l0).bind fun t225 => ((impl_PointsOf.f kj14 t225 a1).bind fun t228 => ((laws_eqIntS.f kj14 t228 t206).bind fun t231 => (if t231 = true then ((laws_heldIntS.f kj14 bt222.2 1).bind fun t232 => (if t232 < 0 then (some false) else (if t232 = bt222.1 then (some true) else (some false)))) else (some false))))) else (some false))))) = some r := by rw [if_neg (show ¬ (false = true) by decide)] at H; exact H
              clear H
              have H := H1
              clear H1
              replace H := Option.bind_eq_some_iff.mp H
              obtain ⟨⟨t222, t223⟩, A310, H⟩ := H
              replace H : ((laws_heldIntS.f kj14 t223 1).bind fun t224 => (if t224 < 0 then (some false) else (if t224 = t222 then ((laws_toIntSS.f kj14 l0).bind fun t225 => ((impl_PointsOf.f kj14 t225 a1).bind fun t228 => ((laws_eqIntS.f kj14 t228 t206).bind fun t231 => (if t231 = true then ((laws_heldIntS.f kj14 t223 1).bind fun t232 => (if t232 < 0 then (some false) else (if t232 = t222 then (some true) else (some false)))) else (some false))))) else (some false)))) = some r := H
              have A31 := Aside0.mk A310
              clear A310
              replace H := Option.bind_eq_some_iff.mp H
              obtain ⟨t224, A320, H⟩ := H
              replace H : (if t224 < 0 then (some false) else (if t224 = t222 then ((laws_toIntSS.f kj14 l0).bind fun t225 => ((impl_PointsOf.f kj14 t225 a1).bind fun t228 => ((laws_eqIntS.f kj14 t228 t206).bind fun t231 => (if t231 = true then ((laws_heldIntS.f kj14 t223 1).bind fun t232 => (if t232 < 0 then (some false) else (if t232 = t222 then (some true) else (some false)))) else (some false))))) else (some false))) = some r := H
              have A32 := Aside0.mk A320
              clear A320
              by_cases c33 : t224 < 0
              · rw [if_pos c33] at H
                have c33b0 : decide (t224 < 0) = true := decide_eq_true c33
                clear c33
                exact absurd ((Option.some.inj H).trans HR_.out) (by decide)
              · rw [if_neg c33] at H
                have c33b0 : decide (t224 < 0) = false := decide_eq_false c33
                clear c33
                by_cases c34 : t224 = t222
                · rw [if_pos c34] at H
                  have c34b0 : (t224 == t222) = true := beq_iff_eq.mpr c34
                  have c34b1 : (t224 != t222) = false := bne_eq_false_iff_eq.mpr c34
                  clear c34
                  replace H := Option.bind_eq_some_iff.mp H
                  obtain ⟨t225, A350, H⟩ := H
                  replace H : ((impl_PointsOf.f kj14 t225 a1).bind fun t228 => ((laws_eqIntS.f kj14 t228 t206).bind fun t231 => (if t231 = true then ((laws_heldIntS.f kj14 t223 1).bind fun t232 => (if t232 < 0 then (some false) else (if t232 = t222 then (some true) else (some false)))) else (some false)))) = some r := H
                  have A35 := Aside0.mk A350
                  clear A350
                  replace H := Option.bind_eq_some_iff.mp H
                  obtain ⟨t228, A360, H⟩ := H
                  replace H : ((laws_eqIntS.f kj14 t228 t206).bind fun t231 => (if t231 = true then ((laws_heldIntS.f kj14 t223 1).bind fun t232 => (if t232 < 0 then (some false) else (if t232 = t222 then (some true) else (some false)))) else (some false))) = some r := H
                  have A36 := Aside0.mk A360
                  clear A360
                  replace H := Option.bind_eq_some_iff.mp H
                  obtain ⟨t231, A370, H⟩ := H
                  replace H : (if t231 = true then ((laws_heldIntS.f kj14 t223 1).bind fun t232 => (if t232 < 0 then (some false) else (if t232 = t222 then (some true) else (some false)))) else (some false)) = some r := H
                  have A37 := Aside0.mk A370
                  clear A370
                  by_cases c38 : t231 = true
                  · subst c38
                    have H1 : ((laws_heldIntS.f kj14 t223 1).bind fun t232 => (if t232 < 0 then (some false) else (if t232 = t222 then (some true) else (some false)))) = some r := by rw [if_pos rfl] at H; exact H
                    clear H
                    have H := H1
                    clear H1
                    replace H := Option.bind_eq_some_iff.mp H
                    obtain ⟨t232, A390, H⟩ := H
                    replace H : (if t232 < 0 then (some false) else (if t232 = t222 then (some true) else (some false))) = some r := H
                    have A39 := Aside0.mk A390
                    clear A390
                    by_cases c40 : t232 < 0
                    · rw [if_pos c40] at H
                      have c40b0 : decide (t232 < 0) = true := decide_eq_true c40
                      clear c40
                      exact absurd ((Option.some.inj H).trans HR_.out) (by decide)
                    · rw [if_neg c40] at H
                      have c40b0 : decide (t232 < 0) = false := decide_eq_false c40
                      clear c40
                      by_cases c41 : t232 = t222
                      · rw [if_pos c41] at H
                        have c41b0 : (t232 == t222) = true := beq_iff_eq.mpr c41
                        have c41b1 : (t232 != t222) = false := bne_eq_false_iff_eq.mpr c41
                        clear c41
                        obtain rfl := Option.some.inj H
                        go_wp2_with (first | ((with_reducible refine gate_callee (f := 18) rfl ?_); refine goesL_ (some 49) rfl rfl Try.func18 (by kernel_rfl) rfl #[.slice Ao22 t212.length co22, .int .i64 1] rfl (by (try simp only [List.map_toArray, List.map_cons, List.map_nil]); first | done | rfl | (simp only [List.length_drop, List.length_take]; rfl)) ?_; (with_reducible refine (laws_markIntS.calls kj14 (fun k_ => some k_ = (.slice Ao22 t212.length co22 : Value).ownBlock) (.slice Ao22 t212.length co22) t212 1 t222 t223 w _ ?side1 ?side2 A31.out).mono ?_); (case side1 => repeat (first | (with_reducible first | exact HB.out | apply below_alloc | apply pw_below_drewN | apply below_drew1) | exact HB.out)); (case side2 => exact Kd.R_tight rfl HO_8.out); rintro e w42 ⟨rfl, hy0, hb, hkp⟩; refine ⟨_, rfl, ?_⟩; have n0_ := Aside0.mk (Kd.R_mono (ok' := fun k_ => some k_ ≠ (.slice Ao22 t212.length co22 : Value).ownBlock) (Kd.R_keptB (HO_6.out) hkp (fun k_ hk_ hs_ => (hk_) hs_)) (fun k_ hk_ => hk_.1)); have n1_ := Aside0.mk (Kd.R_reok rfl hy0 (fun k_ e_ => HO_8.out.1 k_ e_)); have n2_ := Aside0.mk (hb); clear HO_6; clear HO_8; clear HB; have HO_6 := n0_; have HO_8 := n1_; have HB := n2_; clear n0_ n1_ n2_; (try clear hb); (try clear hkp); (try clear hy0)) | ((with_reducible refine gate_callee (f := 19) rfl ?_); refine goesL_ (some 52) rfl rfl Try.func19 (by kernel_rfl) rfl #[.slice Ao22 t223.length co22, .int .i64 1] rfl (by (try simp only [List.map_toArray, List.map_cons, List.map_nil]); first | done | (rw [show t223.length = t212.length from (Kd.R_reads' HO_8.out).1.symm] <;> rfl) | rfl | (simp only [List.length_drop, List.length_take]; rfl)) ?_; (with_reducible refine (laws_heldIntS.calls kj14 _ _ t223 1 t224 _ ?side1 ?side2 A32.out).mono ?_); (case side1 => repeat (first | exact (Kd.R_reads' HO_8.out).2.2 | (with_reducible refine Kd.C_alloc ?_ _) | (with_reducible refine Kd.C_drewN ?_ _) | (with_reducible refine Kd.C_drew ?_))); (case side2 => rw [show t223.length = t212.length from (Kd.R_reads' HO_8.out).1.symm]; exact (Kd.R_reads' HO_8.out).2.1); rintro e w' ⟨rfl, ⟨nd, rfl⟩⟩; refine ⟨_, rfl, ?_⟩) | ((with_reducible refine gate_callee (f := 9) rfl ?_); refine goesL_ (some 59) rfl rfl Try.func9 (by kernel_rfl) rfl #[.slice A0 l0.length c0] rfl (by (try simp only [List.map_toArray, List.map_cons, List.map_nil]); first | done | rfl | (simp only [List.length_drop, List.length_take]; rfl)) ?_; (with_reducible refine (laws_toIntSS.calls kj14 _ _ l0 t225 _ ?side1 ?side2 A35.out).mono ?_); (case side1 => repeat (first | exact (Kd.C_below HR0.out (by repeat (first | (with_reducible first | exact HB.out | apply below_alloc | apply pw_below_drewN | apply below_drew1) | exact HB.out))) | (with_reducible refine Kd.C_alloc ?_ _) | (with_reducible refine Kd.C_drewN ?_ _) | (with_reducible refine Kd.C_drew ?_))); (case side2 => exact HC0.out); rintro e w43 ⟨v226, rfl, ho0, hb⟩; refine ⟨_, rfl, ?_⟩; have n0_ := Aside0.mk (Kd.R_below (by (with_reducible repeat (first | apply Kd.R_alloc | apply Kd.R_drewN | apply Kd.R_drew)); exact HO_6.out) hb); have n1_ := Aside0.mk (Kd.R_below (by (with_reducible repeat (first | apply Kd.R_alloc | apply Kd.R_drewN | apply Kd.R_drew)); exact HO_8.out) hb); have n2_ := Aside0.mk (Kd.S_lower (Kd.S_new' (Kd.S_new' ho0 (Kd.R_lt (by (with_reducible repeat (first | apply Kd.R_alloc | apply Kd.R_drewN | apply Kd.R_drew)); exact HO_6.out))) (Kd.R_lt (by (with_reducible repeat (first | apply Kd.R_alloc | apply Kd.R_drewN | apply Kd.R_drew)); exact HO_8.out))) (below_size (by repeat (first | (with_reducible first | exact HB.out | apply below_alloc | apply pw_below_drewN | apply below_drew1) | exact HB.out)))); have n3_ := Aside0.mk (below_step (by repeat (first | (with_reducible first | exact HB.out | apply below_alloc | apply pw_below_drewN | apply below_drew1) | exact HB.out)) hb); clear HO_6; clear HO_8; clear HB; have HO_6 := n0_; have HO_8 := n1_; have HO227 := n2_; have HB := n3_; clear n0_ n1_ n2_ n3_; (try clear hb); (try clear hb2); (try clear hk); (try clear hi); (try clear ho0); obtain ⟨Ao44, co44, eo44⟩ := Kd.S_slice HO227.out; subst eo44) | ((with_reducible refine gate_callee (f := 15) rfl ?_); refine goesL_ (some 61) rfl rfl Try.func15 (by kernel_rfl) rfl #[.slice Ao44 t225.length co44, .int .i64 a1] rfl (by (try simp only [List.map_toArray, List.map_cons, List.map_nil]); first | done | rfl | (simp only [List.length_drop, List.length_take]; rfl)) ?_; (with_reducible refine (impl_PointsOf.calls kj14 _ _ t225 a1 t228 _ ?side1 ?side2 A36.out).mono ?_); (case side1 => repeat (first | exact (Kd.S_reads' HO227.out).2.2 | (with_reducible refine Kd.C_alloc ?_ _) | (with_reducible refine Kd.C_drewN ?_ _) | (with_reducible refine Kd.C_drew ?_))); (case side2 => exact (Kd.S_reads' HO227.out).2.1); rintro e w45 ⟨v229, rfl, ho0, hb⟩; refine ⟨_, rfl, ?_⟩; have n0_ := Aside0.mk (Kd.R_elder' (by (with_reducible repeat (first | apply Kd.R_alloc | apply Kd.R_drewN | apply Kd.R_drew)); exact HO_6.out) (Kd.R_base ho0) hb); have n1_ := Aside0.mk (Kd.R_elder' (by (with_reducible repeat (first | apply Kd.R_alloc | apply Kd.R_drewN | apply Kd.R_drew)); exact HO_8.out) (Kd.R_base ho0) hb); have n2_ := Aside0.mk (Kd.S_elder' (by (with_reducible repeat (first | apply Kd.S_alloc | apply Kd.S_drewN | apply Kd.S_drew)); exact HO227.out) (Kd.R_base ho0) hb); have n3_ := Aside0.mk (Kd.R_lower (Kd.R_new' (Kd.R_new' ho0 (Kd.R_lt (by (with_reducible repeat (first | apply Kd.R_alloc | apply Kd.R_drewN | apply Kd.R_drew)); exact HO_6.out))) (Kd.R_lt (by (with_reducible repeat (first | apply Kd.R_alloc | apply Kd.R_drewN | apply Kd.R_drew)); exact HO_8.out))) (below_size (by repeat (first | (with_reducible first | exact HB.out | apply below_alloc | apply pw_below_drewN | apply below_drew1) | exact HB.out)))); have n4_ := Aside0.mk (below_step (by repeat (first | (with_reducible first | exact HB.out | apply below_alloc | apply pw_below_drewN | apply below_drew1) | exact HB.out)) hb); clear HO_6; clear HO_8; clear HO227; clear HB; have HO_6 := n0_; have HO_8 := n1_; have HO227 := n2_; have HO230 := n3_; have HB := n4_; clear n0_ n1_ n2_ n3_ n4_; (try clear hb); (try clear hb2); (try clear hk); (try clear hi); (try clear ho0); obtain ⟨Ao46, co46, eo46⟩ := Kd.R_slice HO230.out; subst eo46) | ((with_reducible refine gate_callee (f := 16) rfl ?_); refine goesL_ (some 64) rfl rfl Try.func16 (by kernel_rfl) rfl #[.slice Ao46 t228.length co46, .slice Ao23 t206.length co23] rfl (by (try simp only [List.map_toArray, List.map_cons, List.map_nil]); first | done | rfl | (simp only [List.length_drop, List.length_take]; rfl)) ?_; (with_reducible refine (laws_eqIntS.calls kj14 _ _ t228 _ _ t206 true _ ?side1 ?side2 ?side3 ?side4 A37.out).mono ?_); (case side1 => repeat (first | exact (Kd.R_reads' HO230.out).2.2 | (with_reducible refine Kd.C_alloc ?_ _) | (with_reducible refine Kd.C_drewN ?_ _) | (with_reducible refine Kd.C_drew ?_))); (case side2 => exact (Kd.R_reads' HO230.out).2.1); (case side3 => repeat (first | exact (Kd.R_reads' HO_6.out).2.2 | (with_reducible refine Kd.C_alloc ?_ _) | (with_reducible refine Kd.C_drewN ?_ _) | (with_reducible refine Kd.C_drew ?_))); (case side4 => exact (Kd.R_reads' HO_6.out).2.1); rintro e w' ⟨rfl, ⟨nd, rfl⟩⟩; refine ⟨_, rfl, ?_⟩) | ((with_reducible refine gate_callee (f := 19) rfl ?_); refine goesL_ (some 68) rfl rfl Try.func19 (by kernel_rfl) rfl #[.slice Ao22 t223.length co22, .int .i64 1] rfl (by (try simp only [List.map_toArray, List.map_cons, List.map_nil]); first | done | (rw [show t223.length = t212.length from (Kd.R_reads' HO_8.out).1.symm] <;> rfl) | rfl | (simp only [List.length_drop, List.length_take]; rfl)) ?_; (with_reducible refine (laws_heldIntS.calls kj14 _ _ t223 1 t232 _ ?side1 ?side2 A39.out).mono ?_); (case side1 => repeat (first | exact (Kd.R_reads' HO_8.out).2.2 | (with_reducible refine Kd.C_alloc ?_ _) | (with_reducible refine Kd.C_drewN ?_ _) | (with_reducible refine Kd.C_drew ?_))); (case side2 => rw [show t223.length = t212.length from (Kd.R_reads' HO_8.out).1.symm]; exact (Kd.R_reads' HO_8.out).2.1); rintro e w' ⟨rfl, ⟨nd, rfl⟩⟩; refine ⟨_, rfl, ?_⟩))
                        go_ret
                        exact ⟨by first | rfl | (simp [errW_none, errW_some] <;> rfl) | (simp [*, errW_none, errW_some] <;> rfl), by repeat (first | (with_reducible first | exact HB.out | apply below_alloc | apply pw_below_drewN | apply below_drew1) | exact HB.out)⟩
                      · rw [if_neg c41] at H
                        have c41b0 : (t232 == t222) = false := beq_eq_false_iff_ne.mpr c41
                        have c41b1 : (t232 != t222) = true := bne_iff_ne.mpr c41
                        exact absurd ((Option.some.inj H).trans HR_.out) (by decide)
                  · replace c38 := Bool.eq_false_iff.mpr c38
                    subst c38
                    have H1 : (some false) = some r := by rw [if_neg (show ¬ (false = true) by decide)] at H; exact H
                    clear H
                    have H := H1
                    clear H1
                    exact absurd ((Option.some.inj H).trans HR_.out) (by decide)
                · rw [if_neg c34] at H
                  have c34b0 : (t224 == t222) = false := beq_eq_false_iff_ne.mpr c34
                  have c34b1 : (t224 != t222) = true := bne_iff_ne.mpr c34
                  exact absurd ((Option.some.inj H).trans HR_.out) (by decide)
      · replace c13 := Bool.eq_false_iff.mpr c13
        subst c13
        have H1 : (some false) = some r := by rw [if_neg (show ¬ (false = true) by decide)] at H; exact H
        clear H
        have H := H1
        clear H1
        exact absurd ((Option.some.inj H).trans HR_.out) (by decide)
    · replace c10 := Bool.eq_false_iff.mpr c10
      subst c10
      have H1 : (some false) = some r := by rw [if_neg (show ¬ (false = true) by decide)] at H; exact H
      clear H
      have H := H1
      clear H1
      exact absurd ((Option.some.inj H).trans HR_.out) (by decide)

/-- THE ONE PURE STATEMENT of laws_FnExactPointsOf. -/
def laws_FnExactPointsOf.Pure : Prop := ∀ (l0 : List (List Int)) (a1 : Int), (l0.length ≤ maxLen ∧ ∀ x ∈ l0, x.length ≤ maxLen ∧ ∀ y ∈ x, (Lit.int .i64 y).wf = true) → ((Lit.int .i64 a1).wf = true) → ∃ k, laws_FnExactPointsOf.f k l0 a1 = some true

end Go.Proofs.Ytekcdkefomkgdaa.Q
