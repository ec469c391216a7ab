/- The functions that the seat's statements reach, as plain Lean functions, and that the program's calls answer what they say; no condition beyond the values read. Written by a program of this session's over the kit's print. -/
import Derived.Test.YtgibgapbbnbekaaQx0
import Derived.Test.YtgibgapbbnbekaaQx3
import Derived.Test.YtgibgapbbnbekaaQx12
import Derived.Test.YtgibgapbbnbekaaQx13
import Derived.Test.YtgibgapbbnbekaaQx17
namespace Go.Proofs.Ytgibgapbbnbekaa.Q
open Go.RowKit Go.Proofs.YtgibgapbbnbekaaW.PrintWords Go.Proofs.YtgibgapbbnbekaaW.PrintLast Go.Proofs.YtgibgapbbnbekaaW.PrintMore
attribute [local go_sem] max2_int min2_int max_two min_two max_three min_three max_four min_four   -- for this text's walks alone
set_option linter.unusedVariables false
set_option linter.unusedSimpArgs false

/-! ### impl_FewestTimes: function 24 -/
mutual
def impl_FewestTimes.l0 : Nat → Int → List (S25) → Int → Int → List (S25) → Option (List Int)
  | 0, _, _, _, _, _ => none
  | k + 1, x1, x18, x19, x20, x286000 => if x20 < x19 then (if 0 ≤ x20 then (if x20 < (x18.length : Int) then ((impl_OutAt.f ((rd_T25 x18 x20).f0) ((rd_T25 x18 x20).f1) x1).bind fun bt288 => (if bt288.2.2 = true then (impl_FewestTimes.l0 k x1 x18 x19 (wrap64 (x20 + 1)) x286000) else (some ([] : List Int)))) else (none)) else (none)) else (if (x286000.length : Int) > 20 then (some ([] : List Int)) else ((impl_indices.f k (x286000.length : Int)).bind fun t291 => ((slices_SortStableFunc_int_int.f k t291 x286000).bind fun t297 => (impl_FewestTimes.l1 k x1 (([] : List Int)) t297 (t291.length : Int) 0 x286000))))
def impl_FewestTimes.l1 : Nat → Int → List Int → List Int → Int → Int → List (S25) → Option (List Int)
  | 0, _, _, _, _, _, _ => none
  | k + 1, x1, x11, x44, x45, x46, x286000 => if x46 < x45 then (if 0 ≤ x46 then (if x46 < (x44.length : Int) then (if 0 ≤ (rd x44 x46) then (if (rd x44 x46) < (x286000.length : Int) then ((impl_OutAt.f ((rd_T25 x286000 (rd x44 x46)).f0) ((rd_T25 x286000 (rd x44 x46)).f1) x1).bind fun bt300 => (if (x11.length : Int) = 0 then (if x11.length < 17592186044416 then (impl_FewestTimes.l1 k x1 (x11 ++ [bt300.2.1]) x44 x45 (wrap64 (x46 + 1)) x286000) else (none)) else (if 0 ≤ (wrap64 ((x11.length : Int) - 1)) then (if (wrap64 ((x11.length : Int) - 1)) < (x11.length : Int) then (if (rd x11 (wrap64 ((x11.length : Int) - 1))) < bt300.1 then (if x11.length < 17592186044416 then (impl_FewestTimes.l1 k x1 (x11 ++ [bt300.2.1]) x44 x45 (wrap64 (x46 + 1)) x286000) else (none)) else (impl_FewestTimes.l1 k x1 x11 x44 x45 (wrap64 (x46 + 1)) x286000)) else (none)) else (none)))) else (none)) else (none)) else (none)) else (none)) else (some x11)
end
def impl_FewestTimes.f (k : Nat) (l0 : List (S25)) (a1 : Int) : Option (List Int) := impl_FewestTimes.l0 k a1 l0 (l0.length : Int) 0 l0
theorem impl_FewestTimes.mono_l : ∀ k, (∀ y0 y1 y2 y3 y4, LeO (impl_FewestTimes.l0 k y0 y1 y2 y3 y4) (impl_FewestTimes.l0 (k + 1) y0 y1 y2 y3 y4)) ∧ (∀ y0 y1 y2 y3 y4 y5, LeO (impl_FewestTimes.l1 k y0 y1 y2 y3 y4 y5) (impl_FewestTimes.l1 (k + 1) y0 y1 y2 y3 y4 y5))
  | 0 => ⟨fun _ _ _ _ _ r h => by simp [impl_FewestTimes.l0] at h, fun _ _ _ _ _ _ r h => by simp [impl_FewestTimes.l1] at h⟩
  | k + 1 => by
    obtain ⟨ih0, ih1⟩ := impl_FewestTimes.mono_l k
    refine ⟨?_, ?_⟩
    · intro y0 y1 y2 y3 y4
      unfold impl_FewestTimes.l0
      repeat' first
      | (with_reducible exact ih0 _ _ _ _ _)
      | (with_reducible exact ih1 _ _ _ _ _ _)
      | (with_reducible exact impl_indices.mono _ _)
      | (with_reducible exact slices_SortStableFunc_int_int.mono _ _ _)
      | (with_reducible exact LeO.refl _)
      | (with_reducible exact LeO.none _)
      | (with_reducible refine LeO.ite ?_ ?_)
      | (with_reducible refine LeO.bind ?_ (fun _ => ?_))
      | exact ih0 _ _ _ _ _
      | exact ih1 _ _ _ _ _ _
      | exact impl_indices.mono _ _
      | exact slices_SortStableFunc_int_int.mono _ _ _
      | exact LeO.none _
      | refine LeO.ite ?_ ?_
      | refine LeO.bind ?_ (fun _ => ?_)
    · intro y0 y1 y2 y3 y4 y5
      unfold impl_FewestTimes.l1
      repeat' first
      | (with_reducible exact ih0 _ _ _ _ _)
      | (with_reducible exact ih1 _ _ _ _ _ _)
      | (with_reducible exact impl_indices.mono _ _)
      | (with_reducible exact slices_SortStableFunc_int_int.mono _ _ _)
      | (with_reducible exact LeO.refl _)
      | (with_reducible exact LeO.none _)
      | (with_reducible refine LeO.ite ?_ ?_)
      | (with_reducible refine LeO.bind ?_ (fun _ => ?_))
      | exact ih0 _ _ _ _ _
      | exact ih1 _ _ _ _ _ _
      | exact impl_indices.mono _ _
      | exact slices_SortStableFunc_int_int.mono _ _ _
      | exact LeO.none _
      | refine LeO.ite ?_ ?_
      | refine LeO.bind ?_ (fun _ => ?_)
theorem impl_FewestTimes.mono : ∀ a0 a1 k, LeO (impl_FewestTimes.f k a0 a1) (impl_FewestTimes.f (k + 1) a0 a1) := by
  intro a0 a1 k
  obtain ⟨ih0, ih1⟩ := impl_FewestTimes.mono_l k
  unfold impl_FewestTimes.f
  repeat' first
      | (with_reducible exact ih0 _ _ _ _ _)
      | (with_reducible exact ih1 _ _ _ _ _ _)
      | (with_reducible exact impl_indices.mono _ _)
      | (with_reducible exact slices_SortStableFunc_int_int.mono _ _ _)
      | (with_reducible exact LeO.refl _)
      | (with_reducible exact LeO.none _)
      | (with_reducible refine LeO.ite ?_ ?_)
      | (with_reducible refine LeO.bind ?_ (fun _ => ?_))
      | exact ih0 _ _ _ _ _
      | exact ih1 _ _ _ _ _ _
      | exact impl_indices.mono _ _
      | exact slices_SortStableFunc_int_int.mono _ _ _
      | exact LeO.none _
      | refine LeO.ite ?_ ?_
      | refine LeO.bind ?_ (fun _ => ?_)
set_option maxHeartbeats 8000000 in
set_option maxRecDepth 100000 in
theorem impl_FewestTimes.calls (k : Nat) (A0 : Option Addr) (c0 : Nat) (l0 : List (S25)) (a1 : Int) (r : List Int) (w : World) (hr0 : Kd.C k25 w A0 l0.length l0) (hc0 : l0.length ≤ c0) (h : impl_FewestTimes.f k l0 a1 = some r) :
    Calls Try.prog 24 #[.slice A0 l0.length c0, .int .i64 a1] w fun e w' => ∃ v0_ : Value, e = .returned (v0_) ∧ Kd.R (Kd.int .i64) 3 w' w.heap.size (fun _ => True) v0_ r ∧ Below w.heap.size w w' := by
  have hu25 := Try.underlying25
  have HR0 := Aside0.mk hr0
  have HC0 := Aside0.mk hc0
  clear hr0 hc0
  have HB := Aside0.mk (Below.refl w.heap.size w)
  have H : (impl_FewestTimes.l0 k a1 l0 (l0.length : Int) 0 l0) = some r := h
  clear h
  have H' := Aside0.mk H
  clear H
  go_enter Try.func24, Try.ntmps24
  go_wp2_with (first | ((with_reducible refine gate_dst (N := 2) rfl ?_); refine box_event ?hg (N := 2) ?hd (cs := #[.slice A0 l0.length c0]) (t := 37) ?hr ?_; (case hd => rfl); (case hg => rfl); (case hr => first | (go_simp; done) | (go_simp; rfl)); intro gb285 hg w3 hbox hb; have n0_ := Aside0.mk (below_step (by repeat (first | (with_reducible first | exact HB.out | apply below_alloc | apply pw_below_drewN | apply below_drew1) | exact HB.out)) hb); have n1_ := Aside0.mk (hbox); have n2_ := Aside0.mk ((by rw [hg]; exact (below_size (by repeat (first | (with_reducible first | exact HB.out | apply below_alloc | apply pw_below_drewN | apply below_drew1) | exact HB.out))) : w.heap.size ≤ gb285)); have n3_ := Aside0.mk ((by rw [hg]; exact (below_size (by repeat (first | (with_reducible first | exact HB.out | apply below_alloc | apply pw_below_drewN | apply below_drew1) | exact HB.out))) : w.heap.size ≤ gb285)); clear HB; have HB := n0_; have BK285 := n1_; have GW285 := n2_; have GE285 := n3_; clear n0_ n1_ n2_ n3_; clear hb hbox hg; have hcz4_0 : w3.cell? ⟨gb285, 0, none⟩ = some (.slice A0 l0.length c0) := (blk_cell BK285.out 0).trans rfl; have hfz4_0 := blk_frozen BK285.out 0))
  go_loopg [20] k (fun kq v20 w' => ∃ (x20_1 : Int), v20 = .int .i64 x20_1 ∧ Aside0 (impl_FewestTimes.l0 kq a1 l0 (l0.length : Int) x20_1 l0 = some r) ∧ Aside0 (kq ≤ k) ∧ Aside0 (w'.heap[gb285]? = some (.cells #[(.slice A0 l0.length c0)] 37 (0, 0))) ∧ Aside0 (Below w.heap.size w w'))
  case atStart => exact ⟨(0), (by first | rfl | (simp; done) | (simp [*]; done)), H', ⟨Nat.le_refl _⟩, ⟨by (with_reducible repeat (first | refine blk_drewN ?_ _ | refine blk_drew ?_ | refine blk_alloc ?_ _)); exact BK285.out⟩, ⟨by repeat (first | (with_reducible first | exact HB.out | apply below_alloc | apply pw_below_drewN | apply below_drew1 | refine below_set ?_ GE285.out) | exact HB.out)⟩⟩
  case round =>
    clear H'
    try clear c2
    try clear p2
    try clear hcz4_0
    try clear hfz4_0
    obtain ⟨x20_1, rfl, HA, HK1, BK285, HB⟩ := hrel
    cases gk with
    | zero => exact absurd HA.out (by simp [impl_FewestTimes.l0])
    | succ k1 =>
      have H := HA.out
      clear HA
      simp only [impl_FewestTimes.l0] at H
      by_cases c5 : x20_1 < (l0.length : Int)
      · rw [if_pos c5] at H
        have c5b0 : decide (x20_1 < (l0.length : Int)) = true := decide_eq_true c5
        clear c5
        by_cases c6 : 0 ≤ x20_1
        · rw [if_pos c6] at H
          have c6b0 : decide (0 ≤ x20_1) = true := decide_eq_true c6
          clear c6
          by_cases c7 : x20_1 < (l0.length : Int)
          · rw [if_pos c7] at H
            have c7b0 : decide (x20_1 < (l0.length : Int)) = true := decide_eq_true c7
            clear c7
            replace H := Option.bind_eq_some_iff.mp H
            obtain ⟨⟨t288, t289, t290⟩, A80, H⟩ := H
            replace H : (if t290 = true then (impl_FewestTimes.l0 k1 a1 l0 (l0.length : Int) (wrap64 (x20_1 + 1)) l0) else (some ([] : List Int))) = some r := H
            have A8 := Aside0.mk A80
            clear A80
            by_cases c9 : t290 = true
            · subst c9
              have H1 : (impl_FewestTimes.l0 k1 a1 l0 (l0.length : Int) (wrap64 (x20_1 + 1)) l0) = some r := by rw [if_pos rfl] at H; exact H
              clear H
              have H := H1
              clear H1
              have H' := Aside0.mk H
              clear H
              have p286 : 0 ≤ (x20_1 : Int) := of_decide_eq_true (by first | (with_reducible assumption) | assumption)
              have q286 : x20_1 < (l0.length : Int) := of_decide_eq_true (by first | (with_reducible assumption) | assumption)
              obtain ⟨ad286, e286, hx286_0, hx286_1⟩ := at_T25 HR0.out x20_1 p286 q286
              cases e286
              replace hx286_0 := (HB.out.cell (World.block_lt_of_cell? w _ hx286_0)).trans hx286_0
              replace hx286_1 := (HB.out.cell (World.block_lt_of_cell? w _ hx286_1)).trans hx286_1
              replace p286 := eq_true p286
              replace q286 := eq_true q286
              go_wp2_with (first | ((with_reducible refine gate_dst (N := 6) rfl ?_); refine box_event ?hg (N := 6) ?hd (cs := #[.int .i64 0, .int .i64 0]) (t := 25) ?hr ?_; (case hd => rfl); (case hg => rfl); (case hr => first | (go_simp; done) | (go_simp; rfl)); intro gb287 hg w10 hbox hb; have n0_ := Aside0.mk (blk_below (g := gb285) (o := .cells #[.slice (some ad286) l0.length c0] 37 (0, 0)) (by (with_reducible repeat (first | refine blk_drewN ?_ _ | refine blk_drew ?_ | refine blk_alloc ?_ _)); exact BK285.out) hb); have n1_ := Aside0.mk (below_step (by repeat (first | (with_reducible first | exact HB.out | apply below_alloc | apply pw_below_drewN | apply below_drew1 | refine below_set ?_ GE285.out) | exact HB.out)) hb); have n2_ := Aside0.mk (hbox); have n3_ := Aside0.mk ((by rw [hg]; exact (below_size (by repeat (first | (with_reducible first | exact HB.out | apply below_alloc | apply pw_below_drewN | apply below_drew1 | refine below_set ?_ GE285.out) | exact HB.out))) : w.heap.size ≤ gb287)); have n4_ := Aside0.mk ((by rw [hg]; exact (below_size (by repeat (first | (with_reducible first | exact HB.out | apply below_alloc | apply pw_below_drewN | apply below_drew1 | refine below_set ?_ GE285.out) | exact HB.out))) : w.heap.size ≤ gb287)); have n5_ := Aside0.mk ((by rw [hg]; exact Nat.ne_of_lt (blk_lt (g := gb285) (o := .cells #[.slice (some ad286) l0.length c0] 37 (0, 0)) (by (with_reducible repeat (first | refine blk_drewN ?_ _ | refine blk_drew ?_ | refine blk_alloc ?_ _)); exact BK285.out)) : gb285 ≠ gb287)); have n6_ := Aside0.mk ((by rw [hg]; exact Nat.ne_of_gt (blk_lt (g := gb285) (o := .cells #[.slice (some ad286) l0.length c0] 37 (0, 0)) (by (with_reducible repeat (first | refine blk_drewN ?_ _ | refine blk_drew ?_ | refine blk_alloc ?_ _)); exact BK285.out)) : gb287 ≠ gb285)); clear BK285; clear HB; have BK285 := n0_; have HB := n1_; have BK287 := n2_; have GW287 := n3_; have GE287 := n4_; have NB285_287 := n5_; have NB287_285 := n6_; clear n0_ n1_ n2_ n3_ n4_ n5_ n6_; clear hb hbox hg; have hnb11 := NB287_285.out; have hnc11 := NB285_287.out; have hcz12_0 : w10.cell? ⟨gb287, 0, none⟩ = some (.int .i64 0) := (blk_cell BK287.out 0).trans rfl; have hcz12_1 : w10.cell? ⟨gb287, 1, none⟩ = some (.int .i64 0) := (blk_cell BK287.out 1).trans rfl; have hfz12_0 := blk_frozen BK287.out 0; have hfz12_1 := blk_frozen BK287.out 1) | ((with_reducible refine gate_callee (f := 15) rfl ?_); refine goesL_ (some 27) rfl rfl Try.func15 (by kernel_rfl) rfl #[.agg #[.int .i64 ((rd_T25 l0 x20_1).f0), .int .i64 ((rd_T25 l0 x20_1).f1)], .int .i64 a1] rfl (by (try simp only [List.map_toArray, List.map_cons, List.map_nil]); first | done | rfl | (simp only [List.length_drop, List.length_take]; rfl)) ?_; (with_reducible refine (impl_OutAt.calls ((rd_T25 l0 x20_1).f0) ((rd_T25 l0 x20_1).f1) a1 t288 t289 true _ A8.out).mono ?_); rintro e w13 ⟨rfl, hb⟩; refine ⟨_, rfl, ?_⟩; have n0_ := Aside0.mk (blk_below (g := gb285) (o := .cells #[.slice (some ad286) l0.length c0] 37 (0, 0)) (by (with_reducible repeat (first | refine blk_drewN ?_ _ | refine blk_drew ?_ | refine blk_alloc ?_ _)); refine blk_far ?_ NB285_287.out _; (with_reducible repeat (first | refine blk_drewN ?_ _ | refine blk_drew ?_ | refine blk_alloc ?_ _)); refine blk_far ?_ NB285_287.out _; (with_reducible repeat (first | refine blk_drewN ?_ _ | refine blk_drew ?_ | refine blk_alloc ?_ _)); exact BK285.out) hb); have n1_ := Aside0.mk (blk_below (g := gb287) (o := .cells #[.int .i64 ((rd_T25 l0 x20_1).f0), .int .i64 ((rd_T25 l0 x20_1).f1)] 25 (0, 0)) (by (with_reducible repeat (first | refine blk_drewN ?_ _ | refine blk_drew ?_ | refine blk_alloc ?_ _)); refine blk_put (cs := #[.int .i64 ((rd_T25 l0 x20_1).f0), .int .i64 0]) ?_ 1 _ rfl; (with_reducible repeat (first | refine blk_drewN ?_ _ | refine blk_drew ?_ | refine blk_alloc ?_ _)); refine blk_put (cs := #[.int .i64 0, .int .i64 0]) ?_ 0 _ rfl; (with_reducible repeat (first | refine blk_drewN ?_ _ | refine blk_drew ?_ | refine blk_alloc ?_ _)); exact BK287.out) hb); have n2_ := Aside0.mk (below_step (by repeat (first | (with_reducible first | exact HB.out | apply below_alloc | apply pw_below_drewN | apply below_drew1 | refine below_set ?_ GE285.out | refine below_set ?_ GE287.out) | exact HB.out)) hb); clear BK285; clear BK287; clear HB; have BK285 := n0_; have BK287 := n1_; have HB := n2_; clear n0_ n1_ n2_; (try clear hb); (try clear hb2); (try clear hk); (try clear hi)))
              go_roundg k1
              case measure => have := HK1.out; omega
              case rel => exact ⟨(wrap64 (x20_1 + 1)), (by first | rfl | (simp; done) | (simp [*]; done)), H', ⟨by have := HK1.out; omega⟩, ⟨by (with_reducible repeat (first | refine blk_drewN ?_ _ | refine blk_drew ?_ | refine blk_alloc ?_ _)); exact BK285.out⟩, ⟨by repeat (first | (with_reducible first | exact HB.out | apply below_alloc | apply pw_below_drewN | apply below_drew1 | refine below_set ?_ GE285.out | refine below_set ?_ GE287.out) | exact HB.out)⟩⟩
            · replace c9 := Bool.eq_false_iff.mpr c9
              subst c9
              have H1 : (some ([] : List Int)) = some r := by rw [if_neg (show ¬ (false = true) by decide)] at H; exact H
              clear H
              have H := H1
              clear H1
              obtain rfl := Option.some.inj H
              have p286 : 0 ≤ (x20_1 : Int) := of_decide_eq_true (by first | (with_reducible assumption) | assumption)
              have q286 : x20_1 < (l0.length : Int) := of_decide_eq_true (by first | (with_reducible assumption) | assumption)
              obtain ⟨ad286, e286, hx286_0, hx286_1⟩ := at_T25 HR0.out x20_1 p286 q286
              cases e286
              replace hx286_0 := (HB.out.cell (World.block_lt_of_cell? w _ hx286_0)).trans hx286_0
              replace hx286_1 := (HB.out.cell (World.block_lt_of_cell? w _ hx286_1)).trans hx286_1
              replace p286 := eq_true p286
              replace q286 := eq_true q286
              go_wp2_with (first | ((with_reducible refine gate_dst (N := 6) rfl ?_); refine box_event ?hg (N := 6) ?hd (cs := #[.int .i64 0, .int .i64 0]) (t := 25) ?hr ?_; (case hd => rfl); (case hg => rfl); (case hr => first | (go_simp; done) | (go_simp; rfl)); intro gb287 hg w14 hbox hb; have n0_ := Aside0.mk (blk_below (g := gb285) (o := .cells #[.slice (some ad286) l0.length c0] 37 (0, 0)) (by (with_reducible repeat (first | refine blk_drewN ?_ _ | refine blk_drew ?_ | refine blk_alloc ?_ _)); exact BK285.out) hb); have n1_ := Aside0.mk (below_step (by repeat (first | (with_reducible first | exact HB.out | apply below_alloc | apply pw_below_drewN | apply below_drew1 | refine below_set ?_ GE285.out) | exact HB.out)) hb); have n2_ := Aside0.mk (hbox); have n3_ := Aside0.mk ((by rw [hg]; exact (below_size (by repeat (first | (with_reducible first | exact HB.out | apply below_alloc | apply pw_below_drewN | apply below_drew1 | refine below_set ?_ GE285.out) | exact HB.out))) : w.heap.size ≤ gb287)); have n4_ := Aside0.mk ((by rw [hg]; exact (below_size (by repeat (first | (with_reducible first | exact HB.out | apply below_alloc | apply pw_below_drewN | apply below_drew1 | refine below_set ?_ GE285.out) | exact HB.out))) : w.heap.size ≤ gb287)); have n5_ := Aside0.mk ((by rw [hg]; exact Nat.ne_of_lt (blk_lt (g := gb285) (o := .cells #[.slice (some ad286) l0.length c0] 37 (0, 0)) (by (with_reducible repeat (first | refine blk_drewN ?_ _ | refine blk_drew ?_ | refine blk_alloc ?_ _)); exact BK285.out)) : gb285 ≠ gb287)); have n6_ := Aside0.mk ((by rw [hg]; exact Nat.ne_of_gt (blk_lt (g := gb285) (o := .cells #[.slice (some ad286) l0.length c0] 37 (0, 0)) (by (with_reducible repeat (first | refine blk_drewN ?_ _ | refine blk_drew ?_ | refine blk_alloc ?_ _)); exact BK285.out)) : gb287 ≠ gb285)); clear BK285; clear HB; have BK285 := n0_; have HB := n1_; have BK287 := n2_; have GW287 := n3_; have GE287 := n4_; have NB285_287 := n5_; have NB287_285 := n6_; clear n0_ n1_ n2_ n3_ n4_ n5_ n6_; clear hb hbox hg; have hnb15 := NB287_285.out; have hnc15 := NB285_287.out; have hcz16_0 : w14.cell? ⟨gb287, 0, none⟩ = some (.int .i64 0) := (blk_cell BK287.out 0).trans rfl; have hcz16_1 : w14.cell? ⟨gb287, 1, none⟩ = some (.int .i64 0) := (blk_cell BK287.out 1).trans rfl; have hfz16_0 := blk_frozen BK287.out 0; have hfz16_1 := blk_frozen BK287.out 1) | ((with_reducible refine gate_callee (f := 15) rfl ?_); refine goesL_ (some 27) rfl rfl Try.func15 (by kernel_rfl) rfl #[.agg #[.int .i64 ((rd_T25 l0 x20_1).f0), .int .i64 ((rd_T25 l0 x20_1).f1)], .int .i64 a1] rfl (by (try simp only [List.map_toArray, List.map_cons, List.map_nil]); first | done | rfl | (simp only [List.length_drop, List.length_take]; rfl)) ?_; (with_reducible refine (impl_OutAt.calls ((rd_T25 l0 x20_1).f0) ((rd_T25 l0 x20_1).f1) a1 t288 t289 false _ A8.out).mono ?_); rintro e w17 ⟨rfl, hb⟩; refine ⟨_, rfl, ?_⟩; have n0_ := Aside0.mk (blk_below (g := gb285) (o := .cells #[.slice (some ad286) l0.length c0] 37 (0, 0)) (by (with_reducible repeat (first | refine blk_drewN ?_ _ | refine blk_drew ?_ | refine blk_alloc ?_ _)); refine blk_far ?_ NB285_287.out _; (with_reducible repeat (first | refine blk_drewN ?_ _ | refine blk_drew ?_ | refine blk_alloc ?_ _)); refine blk_far ?_ NB285_287.out _; (with_reducible repeat (first | refine blk_drewN ?_ _ | refine blk_drew ?_ | refine blk_alloc ?_ _)); exact BK285.out) hb); have n1_ := Aside0.mk (blk_below (g := gb287) (o := .cells #[.int .i64 ((rd_T25 l0 x20_1).f0), .int .i64 ((rd_T25 l0 x20_1).f1)] 25 (0, 0)) (by (with_reducible repeat (first | refine blk_drewN ?_ _ | refine blk_drew ?_ | refine blk_alloc ?_ _)); refine blk_put (cs := #[.int .i64 ((rd_T25 l0 x20_1).f0), .int .i64 0]) ?_ 1 _ rfl; (with_reducible repeat (first | refine blk_drewN ?_ _ | refine blk_drew ?_ | refine blk_alloc ?_ _)); refine blk_put (cs := #[.int .i64 0, .int .i64 0]) ?_ 0 _ rfl; (with_reducible repeat (first | refine blk_drewN ?_ _ | refine blk_drew ?_ | refine blk_alloc ?_ _)); exact BK287.out) hb); have n2_ := Aside0.mk (below_step (by repeat (first | (with_reducible first | exact HB.out | apply below_alloc | apply pw_below_drewN | apply below_drew1 | refine below_set ?_ GE285.out | refine below_set ?_ GE287.out) | exact HB.out)) hb); clear BK285; clear BK287; clear HB; have BK285 := n0_; have BK287 := n1_; have HB := n2_; clear n0_ n1_ n2_; (try clear hb); (try clear hb2); (try clear hk); (try clear hi)))
              go_ret
              exact ⟨_, by first | rfl | (simp [errW_none, errW_some] <;> rfl) | (simp [*, errW_none, errW_some] <;> rfl), by first | exact Kd.R_nil _ _ _ _ _ | exact Kd.N_nil _ _ _ _ _ | exact Kd.V_nil _ _ _ _ _ | exact Kd.Q_nil _ _ _ _ _ | exact Kd.S_nil _ _ _ _ _, by repeat (first | (with_reducible first | exact HB.out | apply below_alloc | apply pw_below_drewN | apply below_drew1 | refine below_set ?_ GE285.out | refine below_set ?_ GE287.out) | exact HB.out)⟩
          · rw [if_neg c7] at H
            exact absurd H (by simp)
        · rw [if_neg c6] at H
          exact absurd H (by simp)
      · rw [if_neg c5] at H
        have c5b0 : decide (x20_1 < (l0.length : Int)) = false := decide_eq_false c5
        clear c5
        by_cases c18 : (l0.length : Int) > 20
        · rw [if_pos c18] at H
          have c18b0 : decide (20 < (l0.length : Int)) = true := decide_eq_true c18
          have c18b1 : decide (20 < l0.length) = true := decide_eq_true (by omega)
          clear c18
          obtain rfl := Option.some.inj H
          have hcz19_0 : wr.cell? ⟨gb285, 0, none⟩ = some (.slice A0 l0.length c0) := (blk_cell BK285.out 0).trans rfl
          have hfz19_0 := blk_frozen BK285.out 0
          go_wp2
          go_ret
          exact ⟨_, by first | rfl | (simp [errW_none, errW_some] <;> rfl) | (simp [*, errW_none, errW_some] <;> rfl), by first | exact Kd.R_nil _ _ _ _ _ | exact Kd.N_nil _ _ _ _ _ | exact Kd.V_nil _ _ _ _ _ | exact Kd.Q_nil _ _ _ _ _ | exact Kd.S_nil _ _ _ _ _, by repeat (first | (with_reducible first | exact HB.out | apply below_alloc | apply pw_below_drewN | apply below_drew1 | refine below_set ?_ GE285.out) | exact HB.out)⟩
        · rw [if_neg c18] at H
          have c18b0 : decide (20 < (l0.length : Int)) = false := decide_eq_false c18
          have c18b1 : decide (20 < l0.length) = false := decide_eq_false (by omega)
          clear c18
          replace H := Option.bind_eq_some_iff.mp H
          obtain ⟨t291, A200, H⟩ := H
          replace H : ((slices_SortStableFunc_int_int.f k1 t291 l0).bind fun t297 => (impl_FewestTimes.l1 k1 a1 (([] : List Int)) t297 (t291.length : Int) 0 l0)) = some r := H
          have A20 := Aside0.mk A200
          clear A200
          obtain ⟨y294, hy294⟩ : ∃ y_ : List Int, y_ = (([] : List Int)) := ⟨_, rfl⟩
          replace H : ((slices_SortStableFunc_int_int.f k1 t291 l0).bind fun t297 => (impl_FewestTimes.l1 k1 a1 y294 t297 (t291.length : Int) 0 l0)) = some r := by first | (rw [hy294]; with_reducible exact H) | (have H2_ := (Option.bind_some _ _).symm.trans H; rw [hy294]; with_reducible exact H2_) | (have H2_ := (Option.bind_some _ _).symm.trans H; with_reducible exact H2_) | with_reducible exact H | (rw [hy294]; exact H) | exact H
          have Ny294 := Aside0.mk hy294
          clear hy294
          replace H := Option.bind_eq_some_iff.mp H
          obtain ⟨t297, A210, H⟩ := H
          replace H : (impl_FewestTimes.l1 k1 a1 y294 t297 (t291.length : Int) 0 l0) = some r := H
          have A21 := Aside0.mk A210
          clear A210
          have H' := Aside0.mk H
          clear H
          have hcz22_0 : wr.cell? ⟨gb285, 0, none⟩ = some (.slice A0 l0.length c0) := (blk_cell BK285.out 0).trans rfl
          have hfz22_0 := blk_frozen BK285.out 0
          go_wp2_with (first | ((with_reducible refine gate_callee (f := 37) rfl ?_); refine goesL_ (some 39) rfl rfl Try.func37 (by kernel_rfl) rfl #[.int .i64 (l0.length : Int)] rfl (by (try simp only [List.map_toArray, List.map_cons, List.map_nil]); first | done | rfl | (simp only [List.length_drop, List.length_take]; rfl)) ?_; (with_reducible refine (impl_indices.calls k1 (l0.length : Int) t291 _ A20.out).mono ?_); rintro e w23 ⟨v292, rfl, ho0, hb⟩; refine ⟨_, rfl, ?_⟩; have n0_ := Aside0.mk (Kd.R_lower ho0 (below_size (by repeat (first | (with_reducible first | exact HB.out | apply below_alloc | apply pw_below_drewN | apply below_drew1 | refine below_set ?_ GE285.out) | exact HB.out)))); have n1_ := Aside0.mk (blk_below (g := gb285) (o := .cells #[.slice A0 l0.length c0] 37 (0, 0)) (by (with_reducible repeat (first | refine blk_drewN ?_ _ | refine blk_drew ?_ | refine blk_alloc ?_ _)); exact BK285.out) hb); have n2_ := Aside0.mk (below_step (by repeat (first | (with_reducible first | exact HB.out | apply below_alloc | apply pw_below_drewN | apply below_drew1 | refine below_set ?_ GE285.out) | exact HB.out)) hb); clear BK285; clear HB; have HO293 := n0_; have BK285 := n1_; have HB := n2_; clear n0_ n1_ n2_; (try clear hb); (try clear hb2); (try clear hk); (try clear hi); (try clear ho0)) | ((with_reducible refine gate_dst (N := 40) rfl ?_); refine Kd.R_lit (Kd.int .i64) _ 3 ?hg (N := 40) ?hd (xs := ([] : List Int)) (inner := []) (ok := fun _ => True) (okp := fun _ => True) ?hr ?hp (fun _ hk => hk) trivial (Below.refl _ _) (Nat.le_refl _) (by simp) ?_; (case hd => rfl); (case hg => rfl); (case hr => first | (go_simp; done) | (go_simp; rfl)); (case hp => exact (Reps.none _ _)); intro v295 w24 ho25 hb hg_ hnew_; clear hg_ hnew_; (first | rw [← Ny294.out] at ho25 | (simp only [Int.reduceToNat] at ho25; rw [← Ny294.out] at ho25)); have n0_ := Aside0.mk (Kd.R_elder' (by (with_reducible repeat (first | apply Kd.R_alloc | apply Kd.R_drewN | apply Kd.R_drew)); exact HO293.out) (Kd.R_base ho25) hb); have n1_ := Aside0.mk (Kd.R_lower (Kd.R_new' ho25 (Kd.R_lt (by (with_reducible repeat (first | apply Kd.R_alloc | apply Kd.R_drewN | apply Kd.R_drew)); exact HO293.out))) (below_size (by repeat (first | (with_reducible first | exact HB.out | apply below_alloc | apply pw_below_drewN | apply below_drew1 | refine below_set ?_ GE285.out) | exact HB.out)))); have n2_ := Aside0.mk (blk_below (g := gb285) (o := .cells #[.slice A0 l0.length c0] 37 (0, 0)) (by (with_reducible repeat (first | refine blk_drewN ?_ _ | refine blk_drew ?_ | refine blk_alloc ?_ _)); exact BK285.out) hb); have n3_ := Aside0.mk (below_step (by repeat (first | (with_reducible first | exact HB.out | apply below_alloc | apply pw_below_drewN | apply below_drew1 | refine below_set ?_ GE285.out) | exact HB.out)) hb); clear HO293; clear BK285; clear HB; have HO293 := n0_; have HO296 := n1_; have BK285 := n2_; have HB := n3_; clear n0_ n1_ n2_ n3_; clear hb ho25; have HI285 := Aside0.mk (show IsS37 w _ gb285 l0 from ⟨_, _, by (with_reducible repeat (first | refine blk_drewN ?_ _ | refine blk_drew ?_ | refine blk_alloc ?_ _)); exact BK285.out, GE285.out, ⟨HR0.out, HC0.out⟩⟩); obtain ⟨Ao26, co26, eo26⟩ := Kd.R_slice HO293.out; subst eo26) | ((with_reducible refine gate_callee (f := 38) rfl ?_); refine goesL_ (some 43) rfl rfl Try.func38 (by kernel_rfl) rfl #[.slice Ao26 t291.length co26, .func (.func 39) #[] #[.pointer (some ⟨gb285, 0, none⟩)]] rfl (by (try simp only [List.map_toArray, List.map_cons, List.map_nil]); first | done | rfl | (simp only [List.length_drop, List.length_take]; rfl)) ?_; (with_reducible refine (slices_SortStableFunc_int_int.calls k1 (fun k_ => some k_ = (.slice Ao26 t291.length co26 : Value).ownBlock) (.slice Ao26 t291.length co26) t291 gb285 l0 t297 w _ ?side1 ?side2 ?side3 A21.out).mono ?_); (case side1 => repeat (first | (with_reducible first | exact HI285.out | apply IsS37.alloc | apply IsS37.drewN | apply IsS37.drew) | exact HI285.out)); (case side2 => repeat (first | (with_reducible first | exact HB.out | apply below_alloc | apply pw_below_drewN | apply below_drew1 | refine below_set ?_ (IsS37.ge HI285.out)) | exact HB.out)); (case side3 => exact Kd.R_tight rfl HO293.out); rintro e w27 ⟨rfl, hi, hy0, hb, hkp⟩; refine ⟨_, rfl, ?_⟩; have n0_ := Aside0.mk (hi); have n1_ := Aside0.mk (Kd.R_reok rfl hy0 (fun k_ e_ => HO293.out.1 k_ e_)); have n2_ := Aside0.mk (Kd.R_mono (ok' := fun k_ => some k_ ≠ (.slice Ao26 t291.length co26 : Value).ownBlock) (Kd.R_keptB ((IsS37.apart HI285.out HO296.out (by decide))) hkp (fun k_ hk_ hs_ => Or.elim hs_ (fun hs_ => (hk_.1.2) hs_) (fun e_ => (hk_.2) e_))) (fun k_ hk_ => hk_.1.1.2)); have n3_ := Aside0.mk (hb); clear HI285; clear HO293; clear HO296; clear HB; have HI285 := n0_; have HO293 := n1_; have HO296 := n2_; have HB := n3_; clear n0_ n1_ n2_ n3_; (try clear hb); (try clear hkp); (try clear hy0)))
          go_loopg [11, 46] k1 (fun kq v11 v46 w' => ∃ (x11_2 : List Int) (x46_2 : Int), v46 = .int .i64 x46_2 ∧ Aside0 (impl_FewestTimes.l1 kq a1 x11_2 t297 (t291.length : Int) x46_2 l0 = some r) ∧ Aside0 (kq ≤ k1) ∧ Aside0 (Kd.R (Kd.int .i64) 3 w' w.heap.size (fun k_ => some k_ ≠ ((.slice Ao26 t291.length co26) : Value).ownBlock) v11 x11_2) ∧ Aside0 (Kd.R (Kd.int .i64) 3 w' w.heap.size (fun k_ => some k_ ≠ (v11 : Value).ownBlock) (.slice Ao26 t291.length co26) t297) ∧ Aside0 (IsS37 w w' gb285 l0) ∧ Aside0 (Below w.heap.size w w'))
          case atStart => exact ⟨(y294), (0), (by first | rfl | (simp; done) | (simp [*]; done)), H', ⟨Nat.le_refl _⟩, ⟨by (with_reducible repeat (first | apply Kd.R_alloc | apply Kd.R_drewN | apply Kd.R_drew)); exact HO296.out⟩, ⟨by (with_reducible repeat (first | apply Kd.R_alloc | apply Kd.R_drewN | apply Kd.R_drew)); exact Kd.R_mono HO293.out (fun _ hk => hk.2)⟩, ⟨by repeat (first | (with_reducible first | exact HI285.out | apply IsS37.alloc | apply IsS37.drewN | apply IsS37.drew) | exact HI285.out)⟩, ⟨by repeat (first | (with_reducible first | exact HB.out | apply below_alloc | apply pw_below_drewN | apply below_drew1 | refine below_set ?_ (IsS37.ge HI285.out)) | exact HB.out)⟩⟩
          case round =>
            clear H'
            try clear c1
            try clear c2
            try clear p2
            try clear q2
            try clear hx2
            try clear c3
            try clear c5
            try clear c5b0
            try clear c6
            try clear c6b0
            try clear p6
            try clear c7
            try clear c7b0
            try clear c9
            try clear c11
            try clear c15
            try clear c18
            try clear c18b0
            try clear c18b1
            try clear c24
            try clear hcz12_0
            try clear hcz12_1
            try clear hcz16_0
            try clear hcz16_1
            try clear hcz19_0
            try clear hcz22_0
            try clear hcz4_0
            try clear hfz12_0
            try clear hfz12_1
            try clear hfz16_0
            try clear hfz16_1
            try clear hfz19_0
            try clear hfz22_0
            try clear hfz4_0
            try clear hx286_0
            try clear hx286_1
            try clear p2
            try clear p286
            try clear q286
            obtain ⟨x11_2, x46_2, rfl, HA, HK2, HO_11, HO_44, HI285, HB⟩ := hrel
            have hl44_2 := (Kd.R_reads' HO_44.out).1
            rw [hl44_2] at HO_44
            (try simp only [hl44_2])
            (try simp only [hl44_2] at HO_11)
            cases gk with
            | zero => exact absurd HA.out (by simp [impl_FewestTimes.l1])
            | succ k2 =>
              have H := HA.out
              clear HA
              simp only [impl_FewestTimes.l1] at H
              by_cases c28 : x46_2 < (t291.length : Int)
              · rw [if_pos c28] at H
                have c28b0 : decide (x46_2 < (t291.length : Int)) = true := decide_eq_true c28
                clear c28
                by_cases c29 : 0 ≤ x46_2
                · rw [if_pos c29] at H
                  have c29b0 : decide (0 ≤ x46_2) = true := decide_eq_true c29
                  clear c29
                  by_cases c30 : x46_2 < (t297.length : Int)
                  · rw [if_pos c30] at H
                    have c30b0 : decide (x46_2 < (t297.length : Int)) = true := decide_eq_true c30
                    clear c30
                    by_cases c31 : 0 ≤ (rd t297 x46_2)
                    · rw [if_pos c31] at H
                      have c31b0 : decide (0 ≤ (rd t297 x46_2)) = true := decide_eq_true c31
                      clear c31
                      by_cases c32 : (rd t297 x46_2) < (l0.length : Int)
                      · rw [if_pos c32] at H
                        have c32b0 : decide ((rd t297 x46_2) < (l0.length : Int)) = true := decide_eq_true c32
                        clear c32
                        replace H := Option.bind_eq_some_iff.mp H
                        obtain ⟨⟨t300, t301, t302⟩, A330, H⟩ := H
                        replace H : (if (x11_2.length : Int) = 0 then (if x11_2.length < 17592186044416 then (impl_FewestTimes.l1 k2 a1 (x11_2 ++ [t301]) t297 (t291.length : Int) (wrap64 (x46_2 + 1)) l0) else (none)) else (if 0 ≤ (wrap64 ((x11_2.length : Int) - 1)) then (if (wrap64 ((x11_2.length : Int) - 1)) < (x11_2.length : Int) then (if (rd x11_2 (wrap64 ((x11_2.length : Int) - 1))) < t300 then (if x11_2.length < 17592186044416 then (impl_FewestTimes.l1 k2 a1 (x11_2 ++ [t301]) t297 (t291.length : Int) (wrap64 (x46_2 + 1)) l0) else (none)) else (impl_FewestTimes.l1 k2 a1 x11_2 t297 (t291.length : Int) (wrap64 (x46_2 + 1)) l0)) else (none)) else (none))) = some r := H
                        have A33 := Aside0.mk A330
                        clear A330
                        by_cases c34 : (x11_2.length : Int) = 0
                        · rw [if_pos c34] at H
                          have c34b0 : ((x11_2.length : Int) == 0) = true := beq_iff_eq.mpr c34
                          have c34b1 : ((x11_2.length : Int) != 0) = false := bne_eq_false_iff_eq.mpr c34
                          clear c34
                          by_cases c35 : x11_2.length < 17592186044416
                          · rw [if_pos c35] at H
                            have LMc35 := Aside0.mk c35
                            clear c35
                            obtain ⟨y303, hy303⟩ : ∃ y_ : List Int, y_ = (x11_2 ++ [t301]) := ⟨_, rfl⟩
                            replace H : (impl_FewestTimes.l1 k2 a1 y303 t297 (t291.length : Int) (wrap64 (x46_2 + 1)) l0) = some r := by first | (rw [hy303]; with_reducible exact H) | (have H2_ := (Option.bind_some _ _).symm.trans H; rw [hy303]; with_reducible exact H2_) | (have H2_ := (Option.bind_some _ _).symm.trans H; with_reducible exact H2_) | with_reducible exact H | (rw [hy303]; exact H) | exact H
                            have Ny303 := Aside0.mk hy303
                            clear hy303
                            have H' := Aside0.mk H
                            clear H
                            have p298 : 0 ≤ (x46_2 : Int) := of_decide_eq_true (by first | (with_reducible assumption) | assumption)
                            have q298 : x46_2 < (t297.length : Int) := of_decide_eq_true (by first | (with_reducible assumption) | assumption)
                            obtain ⟨ad298, e298, hx298_0⟩ := Kd.at_int (Kd.R_reads' HO_44.out).2.2 x46_2 p298 q298
                            cases e298
                            replace p298 := eq_true p298
                            replace q298 := eq_true q298
                            obtain ⟨ASz36_0, cSz36_0, HGz36, hgz36, HSz36_0⟩ := HI285.out
                            have hcz36_0 := cellS37_0 HGz36
                            clear HGz36 hgz36
                            have p299 : 0 ≤ ((rd t297 x46_2) : Int) := of_decide_eq_true (by first | (with_reducible assumption) | assumption)
                            have q299 : (rd t297 x46_2) < (l0.length : Int) := of_decide_eq_true (by first | (with_reducible assumption) | assumption)
                            obtain ⟨ad299, e299, hx299_0, hx299_1⟩ := at_T25 HSz36_0.1 (rd t297 x46_2) p299 q299
                            cases e299
                            replace hx299_0 := pw_cell_below HB.out hx299_0
                            replace hx299_1 := pw_cell_below HB.out hx299_1
                            replace p299 := eq_true p299
                            replace q299 := eq_true q299
                            go_wp2_with (first | ((with_reducible refine gate_callee (f := 15) rfl ?_); refine goesL_ (some 56) rfl rfl Try.func15 (by kernel_rfl) rfl #[.agg #[.int .i64 ((rd_T25 l0 (rd t297 x46_2)).f0), .int .i64 ((rd_T25 l0 (rd t297 x46_2)).f1)], .int .i64 a1] rfl (by (try simp only [List.map_toArray, List.map_cons, List.map_nil]); first | done | rfl | (simp only [List.length_drop, List.length_take]; rfl)) ?_; (with_reducible refine (impl_OutAt.calls ((rd_T25 l0 (rd t297 x46_2)).f0) ((rd_T25 l0 (rd t297 x46_2)).f1) a1 t300 t301 t302 _ A33.out).mono ?_); rintro e w37 ⟨rfl, hb⟩; refine ⟨_, rfl, ?_⟩; have n0_ := Aside0.mk (Kd.R_below (by (with_reducible repeat (first | apply Kd.R_alloc | apply Kd.R_drewN | apply Kd.R_drew)); exact HO_11.out) hb); have n1_ := Aside0.mk (Kd.R_below (by (with_reducible repeat (first | apply Kd.R_alloc | apply Kd.R_drewN | apply Kd.R_drew)); exact HO_44.out) hb); have n2_ := Aside0.mk (IsS37.below (by repeat (first | (with_reducible first | exact HI285.out | apply IsS37.alloc | apply IsS37.drewN | apply IsS37.drew) | exact HI285.out)) hb); have n3_ := Aside0.mk (below_step (by repeat (first | (with_reducible first | exact HB.out | apply below_alloc | apply pw_below_drewN | apply below_drew1 | refine below_set ?_ (IsS37.ge HI285.out)) | exact HB.out)) hb); clear HO_11; clear HO_44; clear HI285; clear HB; have HO_11 := n0_; have HO_44 := n1_; have HI285 := n2_; have HB := n3_; clear n0_ n1_ n2_ n3_; (try clear hb); (try clear hb2); (try clear hk); (try clear hi); obtain ⟨Ao38, co38, eo38⟩ := Kd.R_slice HO_11.out; subst eo38) | ((with_reducible refine gate_builtin (b := .append) (xs := #[.tmp 73, .tmp 75]) rfl ?_); at_builtin; refine Kd.R_append (Kd.int .i64) (w0 := w) w.heap.size rfl (.tmp 73) (.tmp 75) 45 3 (.int .i64 0) 8 rfl Try.underlying45 info3 rfl (by decide) (by omega) (.slice Ao38 x11_2.length co38) x11_2 t301 [.int .i64 t301] (fun k_ => some k_ ≠ (.slice (some ad298) t297.length co26 : Value).ownBlock) (fun _ => False) rfl rfl ?aP (fun _ hk => hk.elim) ?aF ?aO ?aB ?aS ?aL ?_; (case aP => exact rfl); (case aB => exact (by repeat (first | (with_reducible first | exact HB.out | apply below_alloc | apply pw_below_drewN | apply below_drew1 | refine below_set ?_ (IsS37.ge HI285.out)) | exact HB.out))); (case aF => exact (fun k_ hk => Kd.fresh' (Kd.R_lt (by (with_reducible repeat (first | apply Kd.R_alloc | apply Kd.R_drewN | apply Kd.R_drew)); exact HO_44.out)) k_ hk)); (case aO => exact (by (with_reducible repeat (first | apply Kd.R_alloc | apply Kd.R_drewN | apply Kd.R_drew)); exact HO_11.out)); (case aS => exact (below_size (by repeat (first | (with_reducible first | exact HB.out | apply below_alloc | apply pw_below_drewN | apply below_drew1 | refine below_set ?_ (IsS37.ge HI285.out)) | exact HB.out)))); (case aL => have := LMc35.out; omega); intro v304 w39 ho hb hg hat; rw [← Ny303.out] at ho; have n0_ := Aside0.mk (Kd.R_after (ok := (fun _ => True)) (by (with_reducible repeat (first | apply Kd.R_alloc | apply Kd.R_drewN | apply Kd.R_drew)); exact Kd.R_mono HO_44.out (fun _ hk => ⟨trivial, hk⟩)) hg hat); have n1_ := Aside0.mk (IsS37.grown (by repeat (first | (with_reducible first | exact HI285.out | apply IsS37.alloc | apply IsS37.drewN | apply IsS37.drew) | exact HI285.out)) hg (IsS37.own_ne HI285.out HO_11.out (by decide))); have n2_ := Aside0.mk (hb); have n3_ := Aside0.mk (ho); clear HO_44; clear HI285; clear HB; clear HO_11; have HO_44 := n0_; have HI285 := n1_; have HB := n2_; have HO305 := n3_; clear n0_ n1_ n2_ n3_; clear ho hb hg hat))
                            (try simp only [← hl44_2])
                            go_roundg k2
                            case measure => have := HK1.out; have := HK2.out; omega
                            case rel => exact ⟨(y303), (wrap64 (x46_2 + 1)), (by first | rfl | (simp; done) | (simp [*]; done)), H', ⟨by have := HK1.out; have := HK2.out; omega⟩, ⟨by (try simp only [hl44_2]); (with_reducible repeat (first | apply Kd.R_alloc | apply Kd.R_drewN | apply Kd.R_drew)); exact HO305.out⟩, ⟨by (try simp only [hl44_2]); (with_reducible repeat (first | apply Kd.R_alloc | apply Kd.R_drewN | apply Kd.R_drew)); exact Kd.R_mono HO_44.out (fun _ hk => hk.2)⟩, ⟨by repeat (first | (with_reducible first | exact HI285.out | apply IsS37.alloc | apply IsS37.drewN | apply IsS37.drew) | exact HI285.out)⟩, ⟨by repeat (first | (with_reducible first | exact HB.out | apply below_alloc | apply pw_below_drewN | apply below_drew1 | refine below_set ?_ (IsS37.ge HI285.out)) | exact HB.out)⟩⟩
                          · rw [if_neg c35] at H
                            exact absurd H (by simp)
                        · rw [if_neg c34] at H
                          have c34b0 : ((x11_2.length : Int) == 0) = false := beq_eq_false_iff_ne.mpr c34
                          have c34b1 : ((x11_2.length : Int) != 0) = true := bne_iff_ne.mpr c34
                          have c34b2 : ¬ (x11_2 = []) := fun h_ => c34 (by rw [h_]; rfl)
                          obtain ⟨ji40, hji40⟩ : ∃ j_ : Int, (wrap64 ((x11_2.length : Int) - 1)) = j_ := ⟨_, rfl⟩
                          replace H : (if 0 ≤ (ji40) then (if (ji40) < (x11_2.length : Int) then (if (rd x11_2 (ji40)) < t300 then (if x11_2.length < 17592186044416 then (impl_FewestTimes.l1 k2 a1 (x11_2 ++ [t301]) t297 (t291.length : Int) (wrap64 (x46_2 + 1)) l0) else (none)) else (impl_FewestTimes.l1 k2 a1 x11_2 t297 (t291.length : Int) (wrap64 (x46_2 + 1)) l0)) else (none)) else (none)) = some r := by first | (rw [hji40] at H; exact H) | (simp only [hji40] at H ⊢; exact H)
                          (try rw [hji40] at A33)
                          have hji40w : (IntKind.i64.wrap ((x11_2.length : Int) - 1)) = ji40 := (i64_w _).trans hji40
                          by_cases c41 : 0 ≤ (ji40)
                          · rw [if_pos c41] at H
                            have c41b0 : decide (0 ≤ (ji40)) = true := decide_eq_true c41
                            clear c41
                            by_cases c42 : (ji40) < (x11_2.length : Int)
                            · rw [if_pos c42] at H
                              have c42b0 : decide ((ji40) < (x11_2.length : Int)) = true := decide_eq_true c42
                              clear c42
                              by_cases c43 : (rd x11_2 (ji40)) < t300
                              · rw [if_pos c43] at H
                                have c43b0 : decide ((rd x11_2 (ji40)) < t300) = true := decide_eq_true c43
                                clear c43
                                by_cases c44 : x11_2.length < 17592186044416
                                · rw [if_pos c44] at H
                                  have LMc44 := Aside0.mk c44
                                  clear c44
                                  obtain ⟨y307, hy307⟩ : ∃ y_ : List Int, y_ = (x11_2 ++ [t301]) := ⟨_, rfl⟩
                                  replace H : (impl_FewestTimes.l1 k2 a1 y307 t297 (t291.length : Int) (wrap64 (x46_2 + 1)) l0) = some r := by first | (rw [hy307]; with_reducible exact H) | (have H2_ := (Option.bind_some _ _).symm.trans H; rw [hy307]; with_reducible exact H2_) | (have H2_ := (Option.bind_some _ _).symm.trans H; with_reducible exact H2_) | with_reducible exact H | (rw [hy307]; exact H) | exact H
                                  have Ny307 := Aside0.mk hy307
                                  clear hy307
                                  have H' := Aside0.mk H
                                  clear H
                                  have p298 : 0 ≤ (x46_2 : Int) := of_decide_eq_true (by first | (with_reducible assumption) | assumption)
                                  have q298 : x46_2 < (t297.length : Int) := of_decide_eq_true (by first | (with_reducible assumption) | assumption)
                                  obtain ⟨ad298, e298, hx298_0⟩ := Kd.at_int (Kd.R_reads' HO_44.out).2.2 x46_2 p298 q298
                                  cases e298
                                  replace p298 := eq_true p298
                                  replace q298 := eq_true q298
                                  obtain ⟨ASz45_0, cSz45_0, HGz45, hgz45, HSz45_0⟩ := HI285.out
                                  have hcz45_0 := cellS37_0 HGz45
                                  clear HGz45 hgz45
                                  have p299 : 0 ≤ ((rd t297 x46_2) : Int) := of_decide_eq_true (by first | (with_reducible assumption) | assumption)
                                  have q299 : (rd t297 x46_2) < (l0.length : Int) := of_decide_eq_true (by first | (with_reducible assumption) | assumption)
                                  obtain ⟨ad299, e299, hx299_0, hx299_1⟩ := at_T25 HSz45_0.1 (rd t297 x46_2) p299 q299
                                  cases e299
                                  replace hx299_0 := pw_cell_below HB.out hx299_0
                                  replace hx299_1 := pw_cell_below HB.out hx299_1
                                  replace p299 := eq_true p299
                                  replace q299 := eq_true q299
                                  go_wp2_with (first | ((with_reducible refine gate_callee (f := 15) rfl ?_); refine goesL_ (some 56) rfl rfl Try.func15 (by kernel_rfl) rfl #[.agg #[.int .i64 ((rd_T25 l0 (rd t297 x46_2)).f0), .int .i64 ((rd_T25 l0 (rd t297 x46_2)).f1)], .int .i64 a1] rfl (by (try simp only [List.map_toArray, List.map_cons, List.map_nil]); first | done | rfl | (simp only [List.length_drop, List.length_take]; rfl)) ?_; (with_reducible refine (impl_OutAt.calls ((rd_T25 l0 (rd t297 x46_2)).f0) ((rd_T25 l0 (rd t297 x46_2)).f1) a1 t300 t301 t302 _ A33.out).mono ?_); rintro e w46 ⟨rfl, hb⟩; refine ⟨_, rfl, ?_⟩; have n0_ := Aside0.mk (Kd.R_below (by (with_reducible repeat (first | apply Kd.R_alloc | apply Kd.R_drewN | apply Kd.R_drew)); exact HO_11.out) hb); have n1_ := Aside0.mk (Kd.R_below (by (with_reducible repeat (first | apply Kd.R_alloc | apply Kd.R_drewN | apply Kd.R_drew)); exact HO_44.out) hb); have n2_ := Aside0.mk (IsS37.below (by repeat (first | (with_reducible first | exact HI285.out | apply IsS37.alloc | apply IsS37.drewN | apply IsS37.drew) | exact HI285.out)) hb); have n3_ := Aside0.mk (below_step (by repeat (first | (with_reducible first | exact HB.out | apply below_alloc | apply pw_below_drewN | apply below_drew1 | refine below_set ?_ (IsS37.ge HI285.out)) | exact HB.out)) hb); clear HO_11; clear HO_44; clear HI285; clear HB; have HO_11 := n0_; have HO_44 := n1_; have HI285 := n2_; have HB := n3_; clear n0_ n1_ n2_ n3_; (try clear hb); (try clear hb2); (try clear hk); (try clear hi); obtain ⟨Ao47, co47, eo47⟩ := Kd.R_slice HO_11.out; subst eo47; have p306 : 0 ≤ ((ji40) : Int) := of_decide_eq_true (by first | (with_reducible assumption) | assumption); have q306 : (ji40) < (x11_2.length : Int) := of_decide_eq_true (by first | (with_reducible assumption) | assumption); obtain ⟨ad306, e306, hx306_0⟩ := Kd.at_int (Kd.R_reads' HO_11.out).2.2 (ji40) p306 q306; cases e306; replace p306 := eq_true p306; replace q306 := eq_true q306) | ((with_reducible refine gate_builtin (b := .append) (xs := #[.tmp 73, .tmp 75]) rfl ?_); at_builtin; refine Kd.R_append (Kd.int .i64) (w0 := w) w.heap.size rfl (.tmp 73) (.tmp 75) 45 3 (.int .i64 0) 8 rfl Try.underlying45 info3 rfl (by decide) (by omega) (.slice (some ad306) x11_2.length co47) x11_2 t301 [.int .i64 t301] (fun k_ => some k_ ≠ (.slice (some ad298) t297.length co26 : Value).ownBlock) (fun _ => False) rfl rfl ?aP (fun _ hk => hk.elim) ?aF ?aO ?aB ?aS ?aL ?_; (case aP => exact rfl); (case aB => exact (by repeat (first | (with_reducible first | exact HB.out | apply below_alloc | apply pw_below_drewN | apply below_drew1 | refine below_set ?_ (IsS37.ge HI285.out)) | exact HB.out))); (case aF => exact (fun k_ hk => Kd.fresh' (Kd.R_lt (by (with_reducible repeat (first | apply Kd.R_alloc | apply Kd.R_drewN | apply Kd.R_drew)); exact HO_44.out)) k_ hk)); (case aO => exact (by (with_reducible repeat (first | apply Kd.R_alloc | apply Kd.R_drewN | apply Kd.R_drew)); exact HO_11.out)); (case aS => exact (below_size (by repeat (first | (with_reducible first | exact HB.out | apply below_alloc | apply pw_below_drewN | apply below_drew1 | refine below_set ?_ (IsS37.ge HI285.out)) | exact HB.out)))); (case aL => have := LMc44.out; omega); intro v308 w48 ho hb hg hat; rw [← Ny307.out] at ho; have n0_ := Aside0.mk (Kd.R_after (ok := (fun _ => True)) (by (with_reducible repeat (first | apply Kd.R_alloc | apply Kd.R_drewN | apply Kd.R_drew)); exact Kd.R_mono HO_44.out (fun _ hk => ⟨trivial, hk⟩)) hg hat); have n1_ := Aside0.mk (IsS37.grown (by repeat (first | (with_reducible first | exact HI285.out | apply IsS37.alloc | apply IsS37.drewN | apply IsS37.drew) | exact HI285.out)) hg (IsS37.own_ne HI285.out HO_11.out (by decide))); have n2_ := Aside0.mk (hb); have n3_ := Aside0.mk (ho); clear HO_44; clear HI285; clear HB; clear HO_11; have HO_44 := n0_; have HI285 := n1_; have HB := n2_; have HO309 := n3_; clear n0_ n1_ n2_ n3_; clear ho hb hg hat))
                                  (try simp only [← hl44_2])
                                  go_roundg k2
                                  case measure => have := HK1.out; have := HK2.out; omega
                                  case rel => exact ⟨(y307), (wrap64 (x46_2 + 1)), (by first | rfl | (simp; done) | (simp [*]; done)), H', ⟨by have := HK1.out; have := HK2.out; omega⟩, ⟨by (try simp only [hl44_2]); (with_reducible repeat (first | apply Kd.R_alloc | apply Kd.R_drewN | apply Kd.R_drew)); exact HO309.out⟩, ⟨by (try simp only [hl44_2]); (with_reducible repeat (first | apply Kd.R_alloc | apply Kd.R_drewN | apply Kd.R_drew)); exact Kd.R_mono HO_44.out (fun _ hk => hk.2)⟩, ⟨by repeat (first | (with_reducible first | exact HI285.out | apply IsS37.alloc | apply IsS37.drewN | apply IsS37.drew) | exact HI285.out)⟩, ⟨by repeat (first | (with_reducible first | exact HB.out | apply below_alloc | apply pw_below_drewN | apply below_drew1 | refine below_set ?_ (IsS37.ge HI285.out)) | exact HB.out)⟩⟩
                                · rw [if_neg c44] at H
                                  exact absurd H (by simp)
                              · rw [if_neg c43] at H
                                have c43b0 : decide ((rd x11_2 (ji40)) < t300) = false := decide_eq_false c43
                                clear c43
                                have H' := Aside0.mk H
                                clear H
                                have p298 : 0 ≤ (x46_2 : Int) := of_decide_eq_true (by first | (with_reducible assumption) | assumption)
                                have q298 : x46_2 < (t297.length : Int) := of_decide_eq_true (by first | (with_reducible assumption) | assumption)
                                obtain ⟨ad298, e298, hx298_0⟩ := Kd.at_int (Kd.R_reads' HO_44.out).2.2 x46_2 p298 q298
                                cases e298
                                replace p298 := eq_true p298
                                replace q298 := eq_true q298
                                obtain ⟨ASz49_0, cSz49_0, HGz49, hgz49, HSz49_0⟩ := HI285.out
                                have hcz49_0 := cellS37_0 HGz49
                                clear HGz49 hgz49
                                have p299 : 0 ≤ ((rd t297 x46_2) : Int) := of_decide_eq_true (by first | (with_reducible assumption) | assumption)
                                have q299 : (rd t297 x46_2) < (l0.length : Int) := of_decide_eq_true (by first | (with_reducible assumption) | assumption)
                                obtain ⟨ad299, e299, hx299_0, hx299_1⟩ := at_T25 HSz49_0.1 (rd t297 x46_2) p299 q299
                                cases e299
                                replace hx299_0 := pw_cell_below HB.out hx299_0
                                replace hx299_1 := pw_cell_below HB.out hx299_1
                                replace p299 := eq_true p299
                                replace q299 := eq_true q299
                                go_wp2_with (first | ((with_reducible refine gate_callee (f := 15) rfl ?_); refine goesL_ (some 56) rfl rfl Try.func15 (by kernel_rfl) rfl #[.agg #[.int .i64 ((rd_T25 l0 (rd t297 x46_2)).f0), .int .i64 ((rd_T25 l0 (rd t297 x46_2)).f1)], .int .i64 a1] rfl (by (try simp only [List.map_toArray, List.map_cons, List.map_nil]); first | done | rfl | (simp only [List.length_drop, List.length_take]; rfl)) ?_; (with_reducible refine (impl_OutAt.calls ((rd_T25 l0 (rd t297 x46_2)).f0) ((rd_T25 l0 (rd t297 x46_2)).f1) a1 t300 t301 t302 _ A33.out).mono ?_); rintro e w50 ⟨rfl, hb⟩; refine ⟨_, rfl, ?_⟩; have n0_ := Aside0.mk (Kd.R_below (by (with_reducible repeat (first | apply Kd.R_alloc | apply Kd.R_drewN | apply Kd.R_drew)); exact HO_11.out) hb); have n1_ := Aside0.mk (Kd.R_below (by (with_reducible repeat (first | apply Kd.R_alloc | apply Kd.R_drewN | apply Kd.R_drew)); exact HO_44.out) hb); have n2_ := Aside0.mk (IsS37.below (by repeat (first | (with_reducible first | exact HI285.out | apply IsS37.alloc | apply IsS37.drewN | apply IsS37.drew) | exact HI285.out)) hb); have n3_ := Aside0.mk (below_step (by repeat (first | (with_reducible first | exact HB.out | apply below_alloc | apply pw_below_drewN | apply below_drew1 | refine below_set ?_ (IsS37.ge HI285.out)) | exact HB.out)) hb); clear HO_11; clear HO_44; clear HI285; clear HB; have HO_11 := n0_; have HO_44 := n1_; have HI285 := n2_; have HB := n3_; clear n0_ n1_ n2_ n3_; (try clear hb); (try clear hb2); (try clear hk); (try clear hi); obtain ⟨Ao51, co51, eo51⟩ := Kd.R_slice HO_11.out; subst eo51; have p306 : 0 ≤ ((ji40) : Int) := of_decide_eq_true (by first | (with_reducible assumption) | assumption); have q306 : (ji40) < (x11_2.length : Int) := of_decide_eq_true (by first | (with_reducible assumption) | assumption); obtain ⟨ad306, e306, hx306_0⟩ := Kd.at_int (Kd.R_reads' HO_11.out).2.2 (ji40) p306 q306; cases e306; replace p306 := eq_true p306; replace q306 := eq_true q306))
                                (try simp only [← hl44_2])
                                go_roundg k2
                                case measure => have := HK1.out; have := HK2.out; omega
                                case rel => exact ⟨(x11_2), (wrap64 (x46_2 + 1)), (by first | rfl | (simp; done) | (simp [*]; done)), H', ⟨by have := HK1.out; have := HK2.out; omega⟩, ⟨by (try simp only [hl44_2]); (with_reducible repeat (first | apply Kd.R_alloc | apply Kd.R_drewN | apply Kd.R_drew)); exact HO_11.out⟩, ⟨by (try simp only [hl44_2]); (with_reducible repeat (first | apply Kd.R_alloc | apply Kd.R_drewN | apply Kd.R_drew)); exact HO_44.out⟩, ⟨by repeat (first | (with_reducible first | exact HI285.out | apply IsS37.alloc | apply IsS37.drewN | apply IsS37.drew) | exact HI285.out)⟩, ⟨by repeat (first | (with_reducible first | exact HB.out | apply below_alloc | apply pw_below_drewN | apply below_drew1 | refine below_set ?_ (IsS37.ge HI285.out)) | exact HB.out)⟩⟩
                            · rw [if_neg c42] at H
                              exact absurd H (by simp)
                          · rw [if_neg c41] at H
                            exact absurd H (by simp)
                      · rw [if_neg c32] at H
                        exact absurd H (by simp)
                    · rw [if_neg c31] at H
                      exact absurd H (by simp)
                  · rw [if_neg c30] at H
                    exact absurd H (by simp)
                · rw [if_neg c29] at H
                  exact absurd H (by simp)
              · rw [if_neg c28] at H
                have c28b0 : decide (x46_2 < (t291.length : Int)) = false := decide_eq_false c28
                (try rw [hl44_2] at c28b0)
                clear c28
                obtain rfl := Option.some.inj H
                go_wp2
                go_ret
                exact ⟨_, by first | rfl | (simp [errW_none, errW_some] <;> rfl) | (simp [*, errW_none, errW_some] <;> rfl), by (with_reducible repeat (first | apply Kd.R_alloc | apply Kd.R_drewN | apply Kd.R_drew)); exact Kd.R_mono HO_11.out (fun _ hk => trivial), by repeat (first | (with_reducible first | exact HB.out | apply below_alloc | apply pw_below_drewN | apply below_drew1 | refine below_set ?_ (IsS37.ge HI285.out)) | exact HB.out)⟩

end Go.Proofs.Ytgibgapbbnbekaa.Q
