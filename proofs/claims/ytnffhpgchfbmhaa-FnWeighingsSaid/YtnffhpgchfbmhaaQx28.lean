/- The functions that the seat's statements reach, as plain Lean functions, and that the program's calls answer what they say; no condition beyond the values read. Written by a program of this session's over the kit's print. -/
import Derived.Shelf.Slices.CompactI
import Derived.Lib.RowBridge
import Derived.Test.YtnffhpgchfbmhaaQx0
import Derived.Test.YtnffhpgchfbmhaaQx8
import Derived.Test.YtnffhpgchfbmhaaQx27
namespace Go.Proofs.Ytnffhpgchfbmhaa.Q
open Go.RowKit Go.Proofs.YtnffhpgchfbmhaaW.PrintWords Go.Proofs.YtnffhpgchfbmhaaW.PrintLast Go.Proofs.YtnffhpgchfbmhaaW.PrintMore
attribute [local go_sem] max2_int min2_int max_two min_two max_three min_three max_four min_four   -- for this text's walks alone
set_option linter.unusedVariables false
set_option linter.unusedSimpArgs false

/-! ### slices.Compact: the library's contract, at a row that is owned -/
open Go.Shelf in
def cmpRen : Go.Shelf.Ren := ⟨fun | 20 => 44 | n => n, fun | 22 => 38 | n => n, fun n => n⟩
open Go.Shelf in
theorem cmpLay : Lays2.n20 Try.prog cmpRen := {
  mixed := by kernel_rfl
  f20 := Try.func44.trans (by kernel_rfl)
  t0 := Try.underlying0
  a0 := Try.isAgg0
  z0 := Try.sizeOf0
  v0 := Try.zeroValue0
  t3 := Try.underlying3
  a3 := Try.isAgg3
  z3 := Try.sizeOf3
  v3 := Try.zeroValue3
  t4 := Try.underlying4
  a4 := Try.isAgg4
  z4 := Try.sizeOf4
  v4 := Try.zeroValue4
  t22 := Try.underlying38
  a22 := Try.isAgg38
  z22 := Try.sizeOf38
  v22 := Try.zeroValue38
  i3 := by kernel_rfl }
def setsL : List Int → Nat → List Int → List Int
  | zs, _, [] => zs
  | zs, o, y :: ys => setsL (zs.set o y) (o + 1) ys
theorem setsL_get : ∀ (ys zs : List Int) (o j : Nat), o + ys.length ≤ zs.length → (setsL zs o ys)[j]? = if o ≤ j ∧ j < o + ys.length then ys[j - o]? else zs[j]? := by
  intro ys
  induction ys with
  | nil =>
    intro zs o j h
    rw [if_neg (by simp only [List.length_nil]; omega)]
    rfl
  | cons y ys ih =>
    intro zs o j h
    rw [List.length_cons] at h
    rw [setsL, ih _ _ _ (by rw [List.length_set]; omega), List.length_cons, List.getElem?_set]
    by_cases c : o + 1 ≤ j ∧ j < o + 1 + ys.length
    · rw [if_pos c, if_pos (by omega)]
      have e : j - o = (j - (o + 1)) + 1 := by omega
      rw [e, List.getElem?_cons_succ]
    · rw [if_neg c]
      by_cases e : o = j
      · subst e
        rw [if_pos rfl, if_pos (by omega), if_pos (by omega), Nat.sub_self, List.getElem?_cons_zero]
      · rw [if_neg e, if_neg (by omega)]
theorem setsL_all (ys zs : List Int) (h : ys.length = zs.length) : setsL zs 0 ys = ys := by
  apply List.ext_getElem?
  intro j
  rw [setsL_get ys zs 0 j (by omega)]
  by_cases c : 0 ≤ j ∧ j < 0 + ys.length
  · rw [if_pos c, Nat.sub_zero]
  · rw [if_neg c, List.getElem?_eq_none (by omega), List.getElem?_eq_none (by omega)]
theorem sets_row {w : World} {ok : Nat → Prop} {g n c : Nat} (hg : w.heap.size ≤ g) : ∀ (ys xs : List Int) (o : Nat) (W : World), Kd.R (Kd.int .i64) 3 W w.heap.size ok (.slice (some ⟨g, 0, none⟩) n c) xs → Below w.heap.size w W → Kd.R (Kd.int .i64) 3 (W.setCells g o (ys.map (Value.int .i64))) w.heap.size ok (.slice (some ⟨g, 0, none⟩) n c) (setsL xs o ys) ∧ Below w.heap.size w (W.setCells g o (ys.map (Value.int .i64))) := by
  intro ys
  induction ys with
  | nil => intro xs o W h hb; exact ⟨h, hb⟩
  | cons y ys ih =>
    intro xs o W h hb
    have hp := (Kd.R_putg h (o : Int) y).1
    rw [Int.toNat_natCast] at hp
    exact ih _ (o + 1) _ hp (below_set hb hg)
theorem compact_row {w W : World} {ok : Nat → Prop} {A : Option Addr} {n c : Nat} {xs : List Int} (hb : Below w.heap.size w W) (h : Kd.R (Kd.int .i64) 3 W w.heap.size ok (.slice A n c) xs) :
    Calls Try.prog 44 #[.slice A n c] W fun e w' => ∃ v, e = .returned v ∧ Kd.R (Kd.int .i64) 3 w' w.heap.size ok v (Lib.compact xs) ∧ Below w.heap.size w w' := by
  obtain ⟨hn, hc, hC⟩ := Kd.R_reads' h
  subst hn
  have hlen : xs.length ≤ 9223372036854775807 := hC.2.1
  by_cases h0 : xs = []
  · subst h0
    refine (Any.slices_Compact_int_empty cmpLay A c W).mono ?_
    rintro e w' ⟨rfl, rfl⟩
    exact ⟨_, rfl, h, hb⟩
  · obtain ⟨g, cap, e, hg, _, _⟩ := Kd.R_form h (List.length_pos_iff.2 h0)
    injection e with e1 e2 e3
    subst e1 e3
    have hH : Go.Sort.Holds (Value.int .i64) W g 0 xs.toArray := by
      intro j hj
      have hj' : j < xs.length := by simpa using hj
      have := Kd.R_cell 0 h (j : Int) (by omega) (by omega)
      rw [Int.toNat_natCast] at this
      simpa [rdOf, List.getD_eq_getElem?_getD, hj'] using this
    refine (Any.slices_Compact_int cmpLay g 0 c xs W hH hlen hc).mono ?_
    rintro e w' ⟨rfl, q, rfl⟩
    have hle := Lib.compact_length_le xs
    have hys : (Lib.compact xs ++ List.replicate (xs.length - (Lib.compact xs).length) 0).length = xs.length := by simp; omega
    rw [Lib.putRow_eq_setCells (Value.int .i64) W g 0 xs.toArray _ q hH (by simpa using hys)]
    obtain ⟨h1, h2⟩ := sets_row hg (Lib.compact xs ++ List.replicate (xs.length - (Lib.compact xs).length) 0) xs 0 (W.drewN q) (Kd.R_drewN h q) (pw_below_drewN hb q)
    rw [setsL_all _ _ hys] at h1
    have h3 := Kd.R_take (m := (Lib.compact xs).length) h1 (by rw [hys]; exact hle)
    rw [List.take_left' rfl] at h3
    exact ⟨_, rfl, h3, h2⟩
/-! ### impl_set: function 34 -/
def impl_set.f (k : Nat) (l0 : List Int) : Option (List Int) := (some (([] : List Int) : List Int)).bind fun y373 => (if y373.length + l0.length < 17592186044416 then ((slices_Sort_int_int.f k (y373 ++ l0)).bind fun t379 => (some (Lib.compact t379))) else (none))
theorem impl_set.mono : ∀ a0 k, LeO (impl_set.f k a0) (impl_set.f (k + 1) a0) := by
  intro a0 k
  unfold impl_set.f
  repeat' first
      | (with_reducible exact slices_Sort_int_int.mono _ _)
      | (with_reducible exact LeO.refl _)
      | (with_reducible exact LeO.none _)
      | (with_reducible refine LeO.ite ?_ ?_)
      | (with_reducible refine LeO.bind ?_ (fun _ => ?_))
      | exact slices_Sort_int_int.mono _ _
      | exact LeO.none _
      | refine LeO.ite ?_ ?_
      | refine LeO.bind ?_ (fun _ => ?_)
set_option maxHeartbeats 8000000 in
set_option maxRecDepth 100000 in
theorem impl_set.calls (k : Nat) (A0 : Option Addr) (c0 : Nat) (l0 : List Int) (r : List Int) (w : World) (hr0 : Kd.C (Kd.int .i64) w A0 l0.length l0) (hc0 : l0.length ≤ c0) (h : impl_set.f k l0 = some r) :
    Calls Try.prog 34 #[.slice A0 l0.length c0] w fun e w' => ∃ v0_ : Value, e = .returned (v0_) ∧ Kd.R (Kd.int .i64) 3 w' w.heap.size (fun _ => True) v0_ r ∧ Below w.heap.size w w' := by
  have HR0 := Aside0.mk hr0
  have HC0 := Aside0.mk hc0
  clear hr0 hc0
  have HB := Aside0.mk (Below.refl w.heap.size w)
  have H : ((some (([] : List Int) : List Int)).bind fun y373 => (if y373.length + l0.length < 17592186044416 then ((slices_Sort_int_int.f k (y373 ++ l0)).bind fun t379 => (some (Lib.compact t379))) else (none))) = some r := h
  clear h
  obtain ⟨y373, hy373⟩ : ∃ y_ : List Int, y_ = (([] : List Int)) := ⟨_, rfl⟩
  replace H : (if y373.length + l0.length < 17592186044416 then ((slices_Sort_int_int.f k (y373 ++ l0)).bind fun t379 => (some (Lib.compact t379))) else (none)) = some r := by first | (rw [hy373]; with_reducible exact H) | (have H2_ := (Option.bind_some _ _).symm.trans H; rw [hy373]; with_reducible exact H2_) | (have H2_ := (Option.bind_some _ _).symm.trans H; with_reducible exact H2_) | with_reducible exact H | (rw [hy373]; exact H) | exact H
  have Ny373 := Aside0.mk hy373
  clear hy373
  by_cases c2 : y373.length + l0.length < 17592186044416
  · rw [if_pos c2] at H
    have LMc2 := Aside0.mk c2
    clear c2
    obtain ⟨y376, hy376⟩ : ∃ y_ : List Int, y_ = (y373 ++ l0) := ⟨_, rfl⟩
    replace H : ((slices_Sort_int_int.f k y376).bind fun t379 => (some (Lib.compact t379))) = some r := by first | (rw [hy376]; with_reducible exact H) | (have H2_ := (Option.bind_some _ _).symm.trans H; rw [hy376]; with_reducible exact H2_) | (have H2_ := (Option.bind_some _ _).symm.trans H; with_reducible exact H2_) | with_reducible exact H | (rw [hy376]; exact H) | exact H
    have Ny376 := Aside0.mk hy376
    clear hy376
    replace H := Option.bind_eq_some_iff.mp H
    obtain ⟨t379, A30, H⟩ := H
    replace H : (some (Lib.compact t379)) = some r := H
    have A3 := Aside0.mk A30
    clear A30
    obtain rfl := Option.some.inj H
    go_enter Try.func34, Try.ntmps34
    go_wp2_with (first | ((with_reducible refine gate_dst (N := 4) rfl ?_); refine Kd.R_lit (Kd.int .i64) _ 3 ?hg (N := 4) ?hd (xs := ([] : List Int)) (inner := []) (ok := fun _ => True) (okp := fun _ => True) ?hr ?hp (fun _ hk => hk) trivial (Below.refl _ _) (Nat.le_refl _) (by simp) ?_; (case hd => rfl); (case hg => rfl); (case hr => first | (go_simp; done) | (go_simp; rfl)); (case hp => exact (Reps.none _ _)); intro v374 w4 ho5 hb hg_ hnew_; clear hg_ hnew_; (first | rw [← Ny373.out] at ho5 | (simp only [Int.reduceToNat] at ho5; rw [← Ny373.out] at ho5)); have n0_ := Aside0.mk (Kd.R_lower ho5 (below_size (by repeat (first | (with_reducible first | exact HB.out | apply below_alloc | apply pw_below_drewN | apply below_drew1) | exact HB.out)))); have n1_ := Aside0.mk (below_step (by repeat (first | (with_reducible first | exact HB.out | apply below_alloc | apply pw_below_drewN | apply below_drew1) | exact HB.out)) hb); clear HB; have HO375 := n0_; have HB := n1_; clear n0_ n1_; clear hb ho5) | ((with_reducible refine gate_builtin (b := .append) (xs := #[.tmp 4, .tmp 5]) rfl ?_); at_builtin; refine Kd.R_append_rows (Kd.int .i64) (w0 := w) w.heap.size rfl (.tmp 4) (.tmp 5) 38 3 (.int .i64 0) 8 rfl Try.underlying38 info3 rfl (by decide) (by omega) v374 y373 l0 _ _ _ (fun _ => True) (fun _ => False) rfl rfl ?aO ?aR (fun _ _ h => h) (fun _ h => h.elim) ?aF ?aB ?aS ?aL ?_; (case aR => repeat (first | exact (Kd.C_below HR0.out HB.out) | (with_reducible refine Kd.C_alloc ?_ _) | (with_reducible refine Kd.C_drewN ?_ _) | (with_reducible refine Kd.C_drew ?_))); (case aB => exact (by repeat (first | (with_reducible first | exact HB.out | apply below_alloc | apply pw_below_drewN | apply below_drew1) | exact HB.out))); (case aF => exact (fun _ _ => trivial)); (case aO => exact (by (with_reducible repeat (first | apply Kd.R_alloc | apply Kd.R_drewN | apply Kd.R_drew)); exact HO375.out)); (case aS => exact (below_size (by repeat (first | (with_reducible first | exact HB.out | apply below_alloc | apply pw_below_drewN | apply below_drew1) | exact HB.out)))); (case aL => have := LMc2.out; omega); intro v377 w6 ho hb hg hat; rw [← Ny376.out] at ho; have n0_ := Aside0.mk (hb); have n1_ := Aside0.mk (ho); clear HB; clear HO375; have HB := n0_; have HO378 := n1_; clear n0_ n1_; clear ho hb hg hat; obtain ⟨Ao7, co7, eo7⟩ := Kd.R_slice HO378.out; subst eo7) | ((with_reducible refine gate_callee (f := 43) rfl ?_); refine goesL_ (some 8) rfl rfl Try.func43 (by kernel_rfl) rfl #[.slice Ao7 y376.length co7] rfl (by (try simp only [List.map_toArray, List.map_cons, List.map_nil]); first | done | rfl | (simp only [List.length_drop, List.length_take]; rfl)) ?_; (with_reducible refine (slices_Sort_int_int.calls k (fun k_ => some k_ = (.slice Ao7 y376.length co7 : Value).ownBlock) (.slice Ao7 y376.length co7) y376 t379 w _ ?side1 ?side2 A3.out).mono ?_); (case side1 => repeat (first | (with_reducible first | exact HB.out | apply below_alloc | apply pw_below_drewN | apply below_drew1) | exact HB.out)); (case side2 => exact Kd.R_tight rfl HO378.out); rintro e w8 ⟨rfl, hy0, hb, hkp⟩; refine ⟨_, rfl, ?_⟩; have n0_ := Aside0.mk (Kd.R_reok rfl hy0 (fun k_ e_ => HO378.out.1 k_ e_)); have n1_ := Aside0.mk (hb); clear HO378; clear HB; have HO378 := n0_; have HB := n1_; clear n0_ n1_; (try clear hb); (try clear hkp); (try clear hy0)) | (go_at_call 44; refine (compact_row (by repeat (first | exact HB.out | apply below_alloc | apply pw_below_drewN | apply below_drew1)) (by (with_reducible repeat (first | apply Kd.R_alloc | apply Kd.R_drewN | apply Kd.R_drew)); exact HO378.out)).mono ?_; rintro e w9 ⟨v9_, rfl, hR_, hb_⟩; have n0_ := Aside0.mk hR_; have n1_ := Aside0.mk hb_; clear HO378 HB hR_ hb_; have HO378 := n0_; have HB := n1_; clear n0_ n1_))
    go_ret
    exact ⟨_, by first | rfl | (simp [errW_none, errW_some] <;> rfl) | (simp [*, errW_none, errW_some] <;> rfl), by (with_reducible repeat (first | apply Kd.R_alloc | apply Kd.R_drewN | apply Kd.R_drew)); exact HO378.out, by repeat (first | (with_reducible first | exact HB.out | apply below_alloc | apply pw_below_drewN | apply below_drew1) | exact HB.out)⟩
  · rw [if_neg c2] at H
    exact absurd H (by simp)

/-! ### slices_Contains_int_int: function 35 -/
def slices_Contains_int_int.f (k : Nat) (l0 : List Int) (a1 : Int) : Option (Bool) := (slices_Index_int_int.f k l0 a1).bind fun t380 => (some (decide (t380 ≥ 0)))
theorem slices_Contains_int_int.mono : ∀ a0 a1 k, LeO (slices_Contains_int_int.f k a0 a1) (slices_Contains_int_int.f (k + 1) a0 a1) := by
  intro a0 a1 k
  unfold slices_Contains_int_int.f
  repeat' first
      | (with_reducible exact slices_Index_int_int.mono _ _ _)
      | (with_reducible exact LeO.refl _)
      | (with_reducible exact LeO.none _)
      | (with_reducible refine LeO.ite ?_ ?_)
      | (with_reducible refine LeO.bind ?_ (fun _ => ?_))
      | exact slices_Index_int_int.mono _ _ _
      | exact LeO.none _
      | refine LeO.ite ?_ ?_
      | refine LeO.bind ?_ (fun _ => ?_)
set_option maxHeartbeats 8000000 in
set_option maxRecDepth 100000 in
theorem slices_Contains_int_int.calls (k : Nat) (A0 : Option Addr) (c0 : Nat) (l0 : List Int) (a1 : Int) (r : Bool) (w : World) (hr0 : Kd.C (Kd.int .i64) w A0 l0.length l0) (hc0 : l0.length ≤ c0) (h : slices_Contains_int_int.f k l0 a1 = some r) :
    Calls Try.prog 35 #[.slice A0 l0.length c0, .int .i64 a1] w fun e w' => e = .returned (.bool r) ∧ Drawn0 w w' := by
  have HR0 := Aside0.mk hr0
  have HC0 := Aside0.mk hc0
  clear hr0 hc0
  have H : ((slices_Index_int_int.f k l0 a1).bind fun t380 => (some (decide (t380 ≥ 0)))) = some r := h
  clear h
  replace H := Option.bind_eq_some_iff.mp H
  obtain ⟨t380, A30, H⟩ := H
  replace H : (some (decide (t380 ≥ 0))) = some r := H
  have A3 := Aside0.mk A30
  clear A30
  obtain rfl := Option.some.inj H
  go_enter Try.func35, Try.ntmps35
  go_wp2_with (first | ((with_reducible refine gate_callee (f := 40) rfl ?_); refine goesL_ (some 7) rfl rfl Try.func40 (by kernel_rfl) rfl #[.slice A0 l0.length c0, .int .i64 a1] rfl (by (try simp only [List.map_toArray, List.map_cons, List.map_nil]); first | done | rfl | (simp only [List.length_drop, List.length_take]; rfl)) ?_; (with_reducible refine (slices_Index_int_int.calls k _ _ l0 a1 t380 _ ?side1 ?side2 A3.out).mono ?_); (case side1 => repeat (first | exact HR0.out | (with_reducible refine Kd.C_alloc ?_ _) | (with_reducible refine Kd.C_drewN ?_ _) | (with_reducible refine Kd.C_drew ?_))); (case side2 => exact HC0.out); rintro e w' ⟨rfl, ⟨nd, rfl⟩⟩; refine ⟨_, rfl, ?_⟩))
  go_ret
  exact ⟨by first | rfl | (simp; done) | (simp [*]; done), by repeat (first | exact Drawn0.refl _ | apply Drawn0.step)⟩

end Go.Proofs.Ytnffhpgchfbmhaa.Q
