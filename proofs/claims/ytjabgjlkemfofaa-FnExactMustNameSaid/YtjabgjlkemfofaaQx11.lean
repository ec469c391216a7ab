/- The functions that the seat's statements reach, as plain Lean functions, and that the program's calls answer what they say; no condition beyond the values read. Written by a program of this session's over the kit's print. -/
import Derived.Test.YtjabgjlkemfofaaQx0
import Derived.Test.YtjabgjlkemfofaaQx3
namespace Go.Proofs.Ytjabgjlkemfofaa.Q
open Go.RowKit Go.Proofs.YtjabgjlkemfofaaW.PrintWords Go.Proofs.YtjabgjlkemfofaaW.PrintLast Go.Proofs.YtjabgjlkemfofaaW.PrintMore
attribute [local go_sem] max2_int min2_int max_two min_two max_three min_three max_four min_four   -- for this text's walks alone
set_option linter.unusedVariables false
set_option linter.unusedSimpArgs false

/-! ### texts in order -/
theorem bless_asymm : ∀ (a b : List UInt8), Op.bytesLess a b = true → Op.bytesLess b a = false
  | [], [], h => by simp [Op.bytesLess] at h
  | [], _ :: _, _ => rfl
  | _ :: _, [], h => by simp [Op.bytesLess] at h
  | x :: a, y :: b, h => by
    unfold Op.bytesLess at h ⊢
    simp only [Bool.or_eq_true, Bool.and_eq_true, decide_eq_true_eq, beq_iff_eq] at h
    simp only [Bool.or_eq_false_iff, Bool.and_eq_false_iff, decide_eq_false_iff_not, beq_eq_false_iff_ne]
    rcases h with h | ⟨rfl, h⟩
    · exact ⟨fun h2 => absurd (UInt8.lt_trans h h2) (UInt8.lt_irrefl _), .inl (fun e => by subst e; exact UInt8.lt_irrefl _ h)⟩
    · exact ⟨UInt8.lt_irrefl _, .inr (bless_asymm a b h)⟩
theorem bless_irrefl (a : List UInt8) : Op.bytesLess a a = false := by
  cases h : Op.bytesLess a a with
  | false => rfl
  | true => exact absurd (bless_asymm a a h) (by rw [h]; simp)
theorem bless_ne (a b : List UInt8) (h : Op.bytesLess a b = true) : (b == a) = false := by
  rw [beq_eq_false_iff_ne]
  intro e
  subst e
  rw [bless_irrefl] at h
  exact absurd h (by simp)
theorem bless_total : ∀ (a b : List UInt8), Op.bytesLess a b = false → (Op.bytesLess b a || b == a) = true
  | [], [], _ => rfl
  | [], _ :: _, h => by simp [Op.bytesLess] at h
  | _ :: _, [], _ => rfl
  | x :: a, y :: b, h => by
    unfold Op.bytesLess at h
    simp only [Bool.or_eq_false_iff, Bool.and_eq_false_iff, decide_eq_false_iff_not, beq_eq_false_iff_ne] at h
    by_cases e : x = y
    · subst e
      have h2 := h.2.resolve_left (fun hn => hn rfl)
      have := bless_total a b h2
      simp only [Bool.or_eq_true, beq_iff_eq] at this
      unfold Op.bytesLess
      rcases this with t | t
      · simp [t]
      · subst t; simp
    · have hlt : y < x := by
        rcases UInt8.lt_or_lt_of_ne (fun e2 => e e2.symm) with h3 | h3
        · exact h3
        · exact absurd h3 h.1
      unfold Op.bytesLess
      simp [hlt]
theorem binOp_string_gtr_ (t : TypeId) (a b : ByteArray) : binOp .gtr t (.string a) (.string b) = pure (.bool (Op.bytesLess b.toList a.toList)) := by
  have e : (!(Op.bytesLess a.toList b.toList || a.toList == b.toList)) = Op.bytesLess b.toList a.toList := by
    cases h : Op.bytesLess b.toList a.toList with
    | true => rw [bless_asymm _ _ h, bless_ne _ _ h]; rfl
    | false => rw [bless_total _ _ h]; rfl
  rw [← e]
  simp [binOp, Op.stringOp]
attribute [local go_sem] binOp_string_gtr_
/-! ### spec_SortedParts: function 12 -/
mutual
def spec_SortedParts.l0 : Nat → List (S41) → List (S41) → Int → Option ((List (S41)))
  | 0, _, _, _ => none
  | k + 1, x0, x3, x4 => if x4 < (x0.length : Int) then ((spec_PartsOk.f k x0).bind fun t166 => (spec_SortedParts.j1 k x0 x3 x4 t166)) else (spec_SortedParts.j1 k x0 x3 x4 false)
def spec_SortedParts.j1 : Nat → List (S41) → List (S41) → Int → Bool → Option ((List (S41)))
  | 0, _, _, _, _ => none
  | k + 1, x0, x3, x4, x14 => if x14 = true then (if 0 ≤ x4 then (if x4 < (x0.length : Int) then (if x3.length < 5864062014805 then (spec_SortedParts.l1 k x0 (x3 ++ [(⟨(rd_T41 x0 x4).f0, (rd_T41 x0 x4).f1⟩ : S41)]) x4 (x3.length : Int)) else (none)) else (none)) else (none)) else (some x3)
def spec_SortedParts.l1 : Nat → List (S41) → List (S41) → Int → Int → Option ((List (S41)))
  | 0, _, _, _, _ => none
  | k + 1, x0, x3, x4, x5 => if x5 > 0 then (if 0 ≤ (wrap64 (x5 - 1)) then (if (wrap64 (x5 - 1)) < (x3.length : Int) then (if 0 ≤ x4 then (if x4 < (x0.length : Int) then (if ((rd_T41 x3 (wrap64 (x5 - 1))).f1) < ((rd_T41 x0 x4).f1) then (if 0 ≤ x5 then (if x5 < (x3.length : Int) then (spec_SortedParts.l1 k x0 (x3.set (x5 : Int).toNat (⟨(rd_T41 x3 (wrap64 (x5 - 1))).f0, (rd_T41 x3 (wrap64 (x5 - 1))).f1⟩ : S41)) x4 (wrap64 (x5 - 1))) else (none)) else (none)) else (if ((rd_T41 x3 (wrap64 (x5 - 1))).f1) = ((rd_T41 x0 x4).f1) then (if (Op.bytesLess (((rd_T41 x0 x4).f0).toList) (((rd_T41 x3 (wrap64 (x5 - 1))).f0).toList)) = true then (if 0 ≤ x5 then (if x5 < (x3.length : Int) then (spec_SortedParts.l1 k x0 (x3.set (x5 : Int).toNat (⟨(rd_T41 x3 (wrap64 (x5 - 1))).f0, (rd_T41 x3 (wrap64 (x5 - 1))).f1⟩ : S41)) x4 (wrap64 (x5 - 1))) else (none)) else (none)) else (if 0 ≤ x5 then (if x5 < (x3.length : Int) then (spec_SortedParts.l0 k x0 (x3.set (x5 : Int).toNat (⟨(rd_T41 x0 x4).f0, (rd_T41 x0 x4).f1⟩ : S41)) (wrap64 (x4 + 1))) else (none)) else (none))) else (if 0 ≤ x5 then (if x5 < (x3.length : Int) then (spec_SortedParts.l0 k x0 (x3.set (x5 : Int).toNat (⟨(rd_T41 x0 x4).f0, (rd_T41 x0 x4).f1⟩ : S41)) (wrap64 (x4 + 1))) else (none)) else (none)))) else (none)) else (none)) else (none)) else (none)) else (if 0 ≤ x4 then (if x4 < (x0.length : Int) then (if 0 ≤ x5 then (if x5 < (x3.length : Int) then (spec_SortedParts.l0 k x0 (x3.set (x5 : Int).toNat (⟨(rd_T41 x0 x4).f0, (rd_T41 x0 x4).f1⟩ : S41)) (wrap64 (x4 + 1))) else (none)) else (none)) else (none)) else (none))
end
def spec_SortedParts.f (k : Nat) (l0 : List (S41)) : Option ((List (S41))) := spec_SortedParts.l0 k l0 (([] : List (S41))) 0
theorem spec_SortedParts.mono_l : ∀ k, (∀ y0 y1 y2, LeO (spec_SortedParts.l0 k y0 y1 y2) (spec_SortedParts.l0 (k + 1) y0 y1 y2)) ∧ (∀ y0 y1 y2 y3, LeO (spec_SortedParts.j1 k y0 y1 y2 y3) (spec_SortedParts.j1 (k + 1) y0 y1 y2 y3)) ∧ (∀ y0 y1 y2 y3, LeO (spec_SortedParts.l1 k y0 y1 y2 y3) (spec_SortedParts.l1 (k + 1) y0 y1 y2 y3))
  | 0 => ⟨fun _ _ _ r h => by simp [spec_SortedParts.l0] at h, fun _ _ _ _ r h => by simp [spec_SortedParts.j1] at h, fun _ _ _ _ r h => by simp [spec_SortedParts.l1] at h⟩
  | k + 1 => by
    obtain ⟨ih0, ih1, ih2⟩ := spec_SortedParts.mono_l k
    refine ⟨?_, ?_, ?_⟩
    · intro y0 y1 y2
      unfold spec_SortedParts.l0
      repeat' first
      | (with_reducible exact ih0 _ _ _)
      | (with_reducible exact ih1 _ _ _ _)
      | (with_reducible exact ih2 _ _ _ _)
      | (with_reducible exact spec_PartsOk.mono _ _)
      | (with_reducible exact LeO.refl _)
      | (with_reducible exact LeO.none _)
      | (with_reducible refine LeO.ite ?_ ?_)
      | (with_reducible refine LeO.bind ?_ (fun _ => ?_))
      | exact ih0 _ _ _
      | exact ih1 _ _ _ _
      | exact ih2 _ _ _ _
      | exact spec_PartsOk.mono _ _
      | exact LeO.none _
      | refine LeO.ite ?_ ?_
      | refine LeO.bind ?_ (fun _ => ?_)
    · intro y0 y1 y2 y3
      unfold spec_SortedParts.j1
      repeat' first
      | (with_reducible exact ih0 _ _ _)
      | (with_reducible exact ih1 _ _ _ _)
      | (with_reducible exact ih2 _ _ _ _)
      | (with_reducible exact spec_PartsOk.mono _ _)
      | (with_reducible exact LeO.refl _)
      | (with_reducible exact LeO.none _)
      | (with_reducible refine LeO.ite ?_ ?_)
      | (with_reducible refine LeO.bind ?_ (fun _ => ?_))
      | exact ih0 _ _ _
      | exact ih1 _ _ _ _
      | exact ih2 _ _ _ _
      | exact spec_PartsOk.mono _ _
      | exact LeO.none _
      | refine LeO.ite ?_ ?_
      | refine LeO.bind ?_ (fun _ => ?_)
    · intro y0 y1 y2 y3
      unfold spec_SortedParts.l1
      repeat' first
      | (with_reducible exact ih0 _ _ _)
      | (with_reducible exact ih1 _ _ _ _)
      | (with_reducible exact ih2 _ _ _ _)
      | (with_reducible exact spec_PartsOk.mono _ _)
      | (with_reducible exact LeO.refl _)
      | (with_reducible exact LeO.none _)
      | (with_reducible refine LeO.ite ?_ ?_)
      | (with_reducible refine LeO.bind ?_ (fun _ => ?_))
      | exact ih0 _ _ _
      | exact ih1 _ _ _ _
      | exact ih2 _ _ _ _
      | exact spec_PartsOk.mono _ _
      | exact LeO.none _
      | refine LeO.ite ?_ ?_
      | refine LeO.bind ?_ (fun _ => ?_)
theorem spec_SortedParts.mono : ∀ a0 k, LeO (spec_SortedParts.f k a0) (spec_SortedParts.f (k + 1) a0) := by
  intro a0 k
  obtain ⟨ih0, ih1, ih2⟩ := spec_SortedParts.mono_l k
  unfold spec_SortedParts.f
  repeat' first
      | (with_reducible exact ih0 _ _ _)
      | (with_reducible exact ih1 _ _ _ _)
      | (with_reducible exact ih2 _ _ _ _)
      | (with_reducible exact spec_PartsOk.mono _ _)
      | (with_reducible exact LeO.refl _)
      | (with_reducible exact LeO.none _)
      | (with_reducible refine LeO.ite ?_ ?_)
      | (with_reducible refine LeO.bind ?_ (fun _ => ?_))
      | exact ih0 _ _ _
      | exact ih1 _ _ _ _
      | exact ih2 _ _ _ _
      | exact spec_PartsOk.mono _ _
      | exact LeO.none _
      | refine LeO.ite ?_ ?_
      | refine LeO.bind ?_ (fun _ => ?_)
set_option maxHeartbeats 8000000 in
set_option maxRecDepth 100000 in
theorem spec_SortedParts.calls (k : Nat) (A0 : Option Addr) (c0 : Nat) (l0 : List (S41)) (r : List (S41)) (w : World) (hr0 : Kd.C k41 w A0 l0.length l0) (hc0 : l0.length ≤ c0) (h : spec_SortedParts.f k l0 = some r) :
    Calls Try.prog 12 #[.slice A0 l0.length c0] w fun e w' => ∃ v0_ : Value, e = .returned (v0_) ∧ Kd.R k41 41 w' w.heap.size (fun _ => True) v0_ r ∧ Below w.heap.size w w' := by
  have hu41 := Try.underlying41
  have HR0 := Aside0.mk hr0
  have HC0 := Aside0.mk hc0
  clear hr0 hc0
  have HB := Aside0.mk (Below.refl w.heap.size w)
  have H : (spec_SortedParts.l0 k l0 (([] : List (S41))) 0) = some r := h
  clear h
  obtain ⟨y163, hy163⟩ : ∃ y_ : List (S41), y_ = (([] : List (S41))) := ⟨_, rfl⟩
  replace H : (spec_SortedParts.l0 k l0 y163 0) = some r := by first | (rw [hy163]; with_reducible exact H) | (have H2_ := (Option.bind_some _ _).symm.trans H; rw [hy163]; with_reducible exact H2_) | (have H2_ := (Option.bind_some _ _).symm.trans H; with_reducible exact H2_) | with_reducible exact H | (rw [hy163]; exact H) | exact H
  have Ny163 := Aside0.mk hy163
  clear hy163
  have H' := Aside0.mk H
  clear H
  go_enter Try.func12, Try.ntmps12
  go_wp2_with (first | ((with_reducible refine gate_dst (N := 6) rfl ?_); refine Kd.R_lit k41 _ 41 ?hg (N := 6) ?hd (xs := ([] : List (S41))) (inner := []) (ok := fun _ => True) (okp := fun _ => True) ?hr ?hp (fun _ hk => hk) trivial (Below.refl _ _) (Nat.le_refl _) (by simp) ?_; (case hd => rfl); (case hg => rfl); (case hr => first | (go_simp; done) | (go_simp; rfl)); (case hp => exact (Reps.none _ _)); intro v164 w2 ho3 hb hg_ hnew_; clear hg_ hnew_; (first | rw [← Ny163.out] at ho3 | (simp only [Int.reduceToNat] at ho3; rw [← Ny163.out] at ho3)); have n0_ := Aside0.mk (Kd.R_lower ho3 (below_size (by repeat (first | (with_reducible first | exact HB.out | apply below_alloc | apply pw_below_drewN | apply below_drew1) | exact HB.out)))); have n1_ := Aside0.mk (below_step (by repeat (first | (with_reducible first | exact HB.out | apply below_alloc | apply pw_below_drewN | apply below_drew1) | exact HB.out)) hb); clear HB; have HO165 := n0_; have HB := n1_; clear n0_ n1_; clear hb ho3))
  repeat (go_quiet (first | ((with_reducible refine gate_dst (N := 6) rfl ?_); refine Kd.R_lit k41 _ 41 ?hg (N := 6) ?hd (xs := ([] : List (S41))) (inner := []) (ok := fun _ => True) (okp := fun _ => True) ?hr ?hp (fun _ hk => hk) trivial (Below.refl _ _) (Nat.le_refl _) (by simp) ?_; (case hd => rfl); (case hg => rfl); (case hr => first | (go_simp; done) | (go_simp; rfl)); (case hp => exact (Reps.none _ _)); intro v164 w2 ho3 hb hg_ hnew_; clear hg_ hnew_; (first | rw [← Ny163.out] at ho3 | (simp only [Int.reduceToNat] at ho3; rw [← Ny163.out] at ho3)); have n0_ := Aside0.mk (Kd.R_lower ho3 (below_size (by repeat (first | (with_reducible first | exact HB.out | apply below_alloc | apply pw_below_drewN | apply below_drew1) | exact HB.out)))); have n1_ := Aside0.mk (below_step (by repeat (first | (with_reducible first | exact HB.out | apply below_alloc | apply pw_below_drewN | apply below_drew1) | exact HB.out)) hb); clear HB; have HO165 := n0_; have HB := n1_; clear n0_ n1_; clear hb ho3)); try go_wp2_with (first | ((with_reducible refine gate_dst (N := 6) rfl ?_); refine Kd.R_lit k41 _ 41 ?hg (N := 6) ?hd (xs := ([] : List (S41))) (inner := []) (ok := fun _ => True) (okp := fun _ => True) ?hr ?hp (fun _ hk => hk) trivial (Below.refl _ _) (Nat.le_refl _) (by simp) ?_; (case hd => rfl); (case hg => rfl); (case hr => first | (go_simp; done) | (go_simp; rfl)); (case hp => exact (Reps.none _ _)); intro v164 w2 ho3 hb hg_ hnew_; clear hg_ hnew_; (first | rw [← Ny163.out] at ho3 | (simp only [Int.reduceToNat] at ho3; rw [← Ny163.out] at ho3)); have n0_ := Aside0.mk (Kd.R_lower ho3 (below_size (by repeat (first | (with_reducible first | exact HB.out | apply below_alloc | apply pw_below_drewN | apply below_drew1) | exact HB.out)))); have n1_ := Aside0.mk (below_step (by repeat (first | (with_reducible first | exact HB.out | apply below_alloc | apply pw_below_drewN | apply below_drew1) | exact HB.out)) hb); clear HB; have HO165 := n0_; have HB := n1_; clear n0_ n1_; clear hb ho3)))
  go_loopg [3, 4] k (fun kq v3 v4 w' => ∃ (x3_1 : List (S41)) (x4_1 : Int), v4 = .int .i64 x4_1 ∧ Aside0 (spec_SortedParts.l0 kq l0 x3_1 x4_1 = some r) ∧ Aside0 (kq ≤ k) ∧ Aside0 (Kd.R k41 41 w' w.heap.size (fun _ => True) v3 x3_1) ∧ Aside0 (Below w.heap.size w w'))
  case atStart => exact ⟨(y163), (0), (by first | rfl | (simp; done) | (simp [*]; done)), H', ⟨Nat.le_refl _⟩, ⟨by (with_reducible repeat (first | apply Kd.R_alloc | apply Kd.R_drewN | apply Kd.R_drew)); exact HO165.out⟩, ⟨by repeat (first | (with_reducible first | exact HB.out | apply below_alloc | apply pw_below_drewN | apply below_drew1) | exact HB.out)⟩⟩
  case round =>
    clear H'
    try clear c1
    try clear p2
    obtain ⟨x3_1, x4_1, rfl, HA, HK1, HO_3, HB⟩ := hrel
    cases gk with
    | zero => exact absurd HA.out (by simp [spec_SortedParts.l0])
    | succ k1 =>
      have H := HA.out
      clear HA
      simp only [spec_SortedParts.l0] at H
      have HC4 := Aside0.mk H
      clear H
      go_upto_region 3 with (fail)
      repeat (go_quiet (fail); go_upto_region 3 with (fail))
      go_cut [14] (fun v14 wc => ∃ (kq : Nat) (x14_3 : Bool), v14 = .bool x14_3 ∧ Aside0 (spec_SortedParts.j1 kq l0 x3_1 x4_1 x14_3 = some r) ∧ Aside0 (kq ≤ k1) ∧ Aside0 (Kd.R k41 41 wc w.heap.size (fun _ => True) u3 x3_1) ∧ Aside0 (Below w.heap.size w wc))
      case first =>
        have H := HC4.out
        clear HC4
        by_cases c5 : x4_1 < (l0.length : Int)
        · rw [if_pos c5] at H
          have c5b0 : decide (x4_1 < (l0.length : Int)) = true := decide_eq_true c5
          clear c5
          (first | rw [c5b0] | (simp only [i64_w, i32_w]; rw [c5b0]) | skip)
          replace H := Option.bind_eq_some_iff.mp H
          obtain ⟨t166, A60, H⟩ := H
          replace H : (spec_SortedParts.j1 k1 l0 x3_1 x4_1 t166) = some r := H
          have A6 := Aside0.mk A60
          clear A60
          have H' := Aside0.mk H
          clear H
          go_wp2_with (first | (go_at_call 8; (with_reducible refine (spec_PartsOk.calls k1 _ _ l0 t166 _ ?side1 ?side2 A6.out).mono ?_); (case side1 => repeat (first | exact (Kd.C_below HR0.out HB.out) | (with_reducible refine Kd.C_alloc ?_ _) | (with_reducible refine Kd.C_drewN ?_ _) | (with_reducible refine Kd.C_drew ?_))); (case side2 => exact HC0.out); rintro e w' ⟨rfl, ⟨nd, rfl⟩⟩; (try first | exact ⟨rfl, _, World.drewN_drewN _ _ _⟩ | exact ⟨rfl, _, Eq.trans (World.drewN_drewN _ _ _) (congrArg (World.drewN _) (Nat.add_assoc _ _ _))⟩)))
          repeat (go_quiet (first | (go_at_call 8; (with_reducible refine (spec_PartsOk.calls k1 _ _ l0 t166 _ ?side1 ?side2 A6.out).mono ?_); (case side1 => repeat (first | exact (Kd.C_below HR0.out HB.out) | (with_reducible refine Kd.C_alloc ?_ _) | (with_reducible refine Kd.C_drewN ?_ _) | (with_reducible refine Kd.C_drew ?_))); (case side2 => exact HC0.out); rintro e w' ⟨rfl, ⟨nd, rfl⟩⟩; (try first | exact ⟨rfl, _, World.drewN_drewN _ _ _⟩ | exact ⟨rfl, _, Eq.trans (World.drewN_drewN _ _ _) (congrArg (World.drewN _) (Nat.add_assoc _ _ _))⟩))); try go_wp2_with (first | (go_at_call 8; (with_reducible refine (spec_PartsOk.calls k1 _ _ l0 t166 _ ?side1 ?side2 A6.out).mono ?_); (case side1 => repeat (first | exact (Kd.C_below HR0.out HB.out) | (with_reducible refine Kd.C_alloc ?_ _) | (with_reducible refine Kd.C_drewN ?_ _) | (with_reducible refine Kd.C_drew ?_))); (case side2 => exact HC0.out); rintro e w' ⟨rfl, ⟨nd, rfl⟩⟩; (try first | exact ⟨rfl, _, World.drewN_drewN _ _ _⟩ | exact ⟨rfl, _, Eq.trans (World.drewN_drewN _ _ _) (congrArg (World.drewN _) (Nat.add_assoc _ _ _))⟩))))
          go_meet
          case rel => exact ⟨_, (t166), (by first | rfl | (simp; done) | (simp [*]; done)), H', ⟨by have := HK1.out; first | omega | exact Nat.le_refl _⟩, ⟨by (with_reducible repeat (first | apply Kd.R_alloc | apply Kd.R_drewN | apply Kd.R_drew)); exact HO_3.out⟩, ⟨by repeat (first | (with_reducible first | exact HB.out | apply below_alloc | apply pw_below_drewN | apply below_drew1) | exact HB.out)⟩⟩
        · rw [if_neg c5] at H
          have c5b0 : decide (x4_1 < (l0.length : Int)) = false := decide_eq_false c5
          clear c5
          (first | rw [c5b0] | (simp only [i64_w, i32_w]; rw [c5b0]) | skip)
          have H' := Aside0.mk H
          clear H
          go_wp2
          repeat (go_quiet (fail); try go_wp2)
          go_meet
          case rel => exact ⟨_, (false), (by first | rfl | (simp; done) | (simp [*]; done)), H', ⟨by have := HK1.out; first | omega | exact Nat.le_refl _⟩, ⟨by (with_reducible repeat (first | apply Kd.R_alloc | apply Kd.R_drewN | apply Kd.R_drew)); exact HO_3.out⟩, ⟨by repeat (first | (with_reducible first | exact HB.out | apply below_alloc | apply pw_below_drewN | apply below_drew1) | exact HB.out)⟩⟩
      case rest =>
        clear HC4
        try clear c1
        try clear p2
        try clear c5
        try clear c5b0
        try clear p2
        obtain ⟨kq, x14_3, rfl, HA, HJ3, HO_3, HB⟩ := hcut
        cases kq with
        | zero => exact absurd HA.out (by simp [spec_SortedParts.j1])
        | succ kj3 =>
          have H := HA.out
          clear HA
          simp only [spec_SortedParts.j1] at H
          by_cases c7 : x14_3 = true
          · subst c7
            have H1 : (if 0 ≤ x4_1 then (if x4_1 < (l0.length : Int) then (if x3_1.length < 5864062014805 then (spec_SortedParts.l1 kj3 l0 (x3_1 ++ [(⟨(rd_T41 l0 x4_1).f0, (rd_T41 l0 x4_1).f1⟩ : S41)]) x4_1 (x3_1.length : Int)) else (none)) else (none)) else (none)) = some r := by rw [if_pos rfl] at H; exact H
            clear H
            have H := H1
            clear H1
            by_cases c8 : 0 ≤ x4_1
            · rw [if_pos c8] at H
              have c8b0 : decide (0 ≤ x4_1) = true := decide_eq_true c8
              clear c8
              by_cases c9 : x4_1 < (l0.length : Int)
              · rw [if_pos c9] at H
                have c9b0 : decide (x4_1 < (l0.length : Int)) = true := decide_eq_true c9
                clear c9
                by_cases c10 : x3_1.length < 5864062014805
                · rw [if_pos c10] at H
                  have LMc10 := Aside0.mk c10
                  clear c10
                  obtain ⟨y168, hy168⟩ : ∃ y_ : List (S41), y_ = (x3_1 ++ [(⟨(rd_T41 l0 x4_1).f0, (rd_T41 l0 x4_1).f1⟩ : S41)]) := ⟨_, rfl⟩
                  replace H : (spec_SortedParts.l1 kj3 l0 y168 x4_1 (x3_1.length : Int)) = some r := by first | (rw [hy168]; with_reducible exact H) | (have H2_ := (Option.bind_some _ _).symm.trans H; rw [hy168]; with_reducible exact H2_) | (have H2_ := (Option.bind_some _ _).symm.trans H; with_reducible exact H2_) | with_reducible exact H | (rw [hy168]; exact H) | exact H
                  have Ny168 := Aside0.mk hy168
                  clear hy168
                  have H' := Aside0.mk H
                  clear H
                  obtain ⟨Ao11, co11, eo11⟩ := Kd.R_slice HO_3.out
                  subst eo11
                  have p167 : 0 ≤ (x4_1 : Int) := of_decide_eq_true (by first | (with_reducible assumption) | assumption)
                  have q167 : x4_1 < (l0.length : Int) := of_decide_eq_true (by first | (with_reducible assumption) | assumption)
                  obtain ⟨ad167, e167, hx167_0, hx167_1⟩ := at_T41 HR0.out x4_1 p167 q167
                  cases e167
                  replace hx167_0 := (HB.out.cell (World.block_lt_of_cell? w _ hx167_0)).trans hx167_0
                  replace hx167_1 := (HB.out.cell (World.block_lt_of_cell? w _ hx167_1)).trans hx167_1
                  replace p167 := eq_true p167
                  replace q167 := eq_true q167
                  go_wp2_with (first | ((with_reducible refine gate_builtin (b := .append) (xs := #[.tmp 19, .tmp 24]) rfl ?_); at_builtin; refine Kd.R_append k41 (w0 := w) w.heap.size rfl (.tmp 19) (.tmp 24) 25 41 (.agg #[(.string ⟨#[]⟩), (.int .i64 0)]) 24 rfl Try.underlying25 info41 rfl (by decide) (by omega) (.slice Ao11 x3_1.length co11) x3_1 (⟨(rd_T41 l0 x4_1).f0, (rd_T41 l0 x4_1).f1⟩ : S41) [.string ((rd_T41 l0 x4_1).f0), .int .i64 ((rd_T41 l0 x4_1).f1)] (fun _ => True) (fun _ => False) rfl rfl ?aP (fun _ hk => hk.elim) ?aF ?aO ?aB ?aS ?aL ?_; (case aP => exact k41_mkM _ _ _ (⟨(rd_T41 l0 x4_1).f0, (rd_T41 l0 x4_1).f1⟩ : S41)); (case aB => exact (by repeat (first | (with_reducible first | exact HB.out | apply below_alloc | apply pw_below_drewN | apply below_drew1) | exact HB.out))); (case aF => exact (fun _ _ => trivial)); (case aO => exact (by (with_reducible repeat (first | apply Kd.R_alloc | apply Kd.R_drewN | apply Kd.R_drew)); exact HO_3.out)); (case aS => exact (below_size (by repeat (first | (with_reducible first | exact HB.out | apply below_alloc | apply pw_below_drewN | apply below_drew1) | exact HB.out)))); (case aL => have := LMc10.out; omega); intro v169 w12 ho hb hg hat; rw [← Ny168.out] at ho; have n0_ := Aside0.mk (hb); have n1_ := Aside0.mk (ho); clear HB; clear HO_3; have HB := n0_; have HO170 := n1_; clear n0_ n1_; clear ho hb hg hat))
                  repeat (go_quiet (first | ((with_reducible refine gate_builtin (b := .append) (xs := #[.tmp 19, .tmp 24]) rfl ?_); at_builtin; refine Kd.R_append k41 (w0 := w) w.heap.size rfl (.tmp 19) (.tmp 24) 25 41 (.agg #[(.string ⟨#[]⟩), (.int .i64 0)]) 24 rfl Try.underlying25 info41 rfl (by decide) (by omega) (.slice Ao11 x3_1.length co11) x3_1 (⟨(rd_T41 l0 x4_1).f0, (rd_T41 l0 x4_1).f1⟩ : S41) [.string ((rd_T41 l0 x4_1).f0), .int .i64 ((rd_T41 l0 x4_1).f1)] (fun _ => True) (fun _ => False) rfl rfl ?aP (fun _ hk => hk.elim) ?aF ?aO ?aB ?aS ?aL ?_; (case aP => exact k41_mkM _ _ _ (⟨(rd_T41 l0 x4_1).f0, (rd_T41 l0 x4_1).f1⟩ : S41)); (case aB => exact (by repeat (first | (with_reducible first | exact HB.out | apply below_alloc | apply pw_below_drewN | apply below_drew1) | exact HB.out))); (case aF => exact (fun _ _ => trivial)); (case aO => exact (by (with_reducible repeat (first | apply Kd.R_alloc | apply Kd.R_drewN | apply Kd.R_drew)); exact HO_3.out)); (case aS => exact (below_size (by repeat (first | (with_reducible first | exact HB.out | apply below_alloc | apply pw_below_drewN | apply below_drew1) | exact HB.out)))); (case aL => have := LMc10.out; omega); intro v169 w12 ho hb hg hat; rw [← Ny168.out] at ho; have n0_ := Aside0.mk (hb); have n1_ := Aside0.mk (ho); clear HB; clear HO_3; have HB := n0_; have HO170 := n1_; clear n0_ n1_; clear ho hb hg hat)); try go_wp2_with (first | ((with_reducible refine gate_builtin (b := .append) (xs := #[.tmp 19, .tmp 24]) rfl ?_); at_builtin; refine Kd.R_append k41 (w0 := w) w.heap.size rfl (.tmp 19) (.tmp 24) 25 41 (.agg #[(.string ⟨#[]⟩), (.int .i64 0)]) 24 rfl Try.underlying25 info41 rfl (by decide) (by omega) (.slice Ao11 x3_1.length co11) x3_1 (⟨(rd_T41 l0 x4_1).f0, (rd_T41 l0 x4_1).f1⟩ : S41) [.string ((rd_T41 l0 x4_1).f0), .int .i64 ((rd_T41 l0 x4_1).f1)] (fun _ => True) (fun _ => False) rfl rfl ?aP (fun _ hk => hk.elim) ?aF ?aO ?aB ?aS ?aL ?_; (case aP => exact k41_mkM _ _ _ (⟨(rd_T41 l0 x4_1).f0, (rd_T41 l0 x4_1).f1⟩ : S41)); (case aB => exact (by repeat (first | (with_reducible first | exact HB.out | apply below_alloc | apply pw_below_drewN | apply below_drew1) | exact HB.out))); (case aF => exact (fun _ _ => trivial)); (case aO => exact (by (with_reducible repeat (first | apply Kd.R_alloc | apply Kd.R_drewN | apply Kd.R_drew)); exact HO_3.out)); (case aS => exact (below_size (by repeat (first | (with_reducible first | exact HB.out | apply below_alloc | apply pw_below_drewN | apply below_drew1) | exact HB.out)))); (case aL => have := LMc10.out; omega); intro v169 w12 ho hb hg hat; rw [← Ny168.out] at ho; have n0_ := Aside0.mk (hb); have n1_ := Aside0.mk (ho); clear HB; clear HO_3; have HB := n0_; have HO170 := n1_; clear n0_ n1_; clear ho hb hg hat)))
                  go_loopg [5] kj3 (fun kq v5 w' => ∃ (x3_3 : List (S41)) (x5_3 : Int), v5 = .int .i64 x5_3 ∧ Aside0 (spec_SortedParts.l1 kq l0 x3_3 x4_1 x5_3 = some r) ∧ Aside0 (kq ≤ kj3) ∧ Aside0 (Kd.R k41 41 w' w.heap.size (fun _ => True) v169 x3_3) ∧ Aside0 (Below w.heap.size w w'))
                  case atStart => exact ⟨(y168), ((x3_1.length : Int)), (by first | rfl | (simp; done) | (simp [*]; done)), H', ⟨Nat.le_refl _⟩, ⟨by (with_reducible repeat (first | apply Kd.R_alloc | apply Kd.R_drewN | apply Kd.R_drew)); exact HO170.out⟩, ⟨by repeat (first | (with_reducible first | exact HB.out | apply below_alloc | apply pw_below_drewN | apply below_drew1) | exact HB.out)⟩⟩
                  case round =>
                    clear H'
                    try clear c1
                    try clear p1
                    try clear q1
                    try clear hx1
                    try clear p2
                    try clear c5
                    try clear c5b0
                    try clear c7
                    try clear c8
                    try clear c8b0
                    try clear c9
                    try clear c9b0
                    try clear c10
                    try clear c12
                    try clear hx167_0
                    try clear hx167_1
                    try clear p167
                    try clear p2
                    try clear q167
                    obtain ⟨x3_3, x5_3, rfl, HA, HK3, HO_3, HB⟩ := hrel
                    cases gk with
                    | zero => exact absurd HA.out (by simp [spec_SortedParts.l1])
                    | succ k3 =>
                      have H := HA.out
                      clear HA
                      simp only [spec_SortedParts.l1] at H
                      by_cases c13 : x5_3 > 0
                      · rw [if_pos c13] at H
                        have c13b0 : decide (0 < x5_3) = true := decide_eq_true c13
                        clear c13
                        obtain ⟨ji14, hji14⟩ : ∃ j_ : Int, (wrap64 (x5_3 - 1)) = j_ := ⟨_, rfl⟩
                        replace H : (if 0 ≤ (ji14) then (if (ji14) < (x3_3.length : Int) then (if 0 ≤ x4_1 then (if x4_1 < (l0.length : Int) then (if ((rd_T41 x3_3 (ji14)).f1) < ((rd_T41 l0 x4_1).f1) then (if 0 ≤ x5_3 then (if x5_3 < (x3_3.length : Int) then (spec_SortedParts.l1 k3 l0 (x3_3.set (x5_3 : Int).toNat (⟨(rd_T41 x3_3 (ji14)).f0, (rd_T41 x3_3 (ji14)).f1⟩ : S41)) x4_1 ji14) else (none)) else (none)) else (if ((rd_T41 x3_3 (ji14)).f1) = ((rd_T41 l0 x4_1).f1) then (if (Op.bytesLess (((rd_T41 l0 x4_1).f0).toList) (((rd_T41 x3_3 (ji14)).f0).toList)) = true then (if 0 ≤ x5_3 then (if x5_3 < (x3_3.length : Int) then (spec_SortedParts.l1 k3 l0 (x3_3.set (x5_3 : Int).toNat (⟨(rd_T41 x3_3 (ji14)).f0, (rd_T41 x3_3 (ji14)).f1⟩ : S41)) x4_1 ji14) else (none)) else (none)) else (if 0 ≤ x5_3 then (if x5_3 < (x3_3.length : Int) then (spec_SortedParts.l0 k3 l0 (x3_3.set (x5_3 : Int).toNat (⟨(rd_T41 l0 x4_1).f0, (rd_T41 l0 x4_1).f1⟩ : S41)) (wrap64 (x4_1 + 1))) else (none)) else (none))) else (if 0 ≤ x5_3 then (if x5_3 < (x3_3.length : Int) then (spec_SortedParts.l0 k3 l0 (x3_3.set (x5_3 : Int).toNat (⟨(rd_T41 l0 x4_1).f0, (rd_T41 l0 x4_1).f1⟩ : S41)) (wrap64 (x4_1 + 1))) else (none)) else (none)))) else (none)) else (none)) else (none)) else (none)) = some r := by first | (rw [hji14] at H; exact H) | (simp only [hji14] at H ⊢; exact H)
                        have hji14w : (IntKind.i64.wrap (x5_3 - 1)) = ji14 := (i64_w _).trans hji14
                        by_cases c15 : 0 ≤ (ji14)
                        · rw [if_pos c15] at H
                          have c15b0 : decide (0 ≤ (ji14)) = true := decide_eq_true c15
                          clear c15
                          by_cases c16 : (ji14) < (x3_3.length : Int)
                          · rw [if_pos c16] at H
                            have c16b0 : decide ((ji14) < (x3_3.length : Int)) = true := decide_eq_true c16
                            clear c16
                            by_cases c17 : 0 ≤ x4_1
                            · rw [if_pos c17] at H
                              have c17b0 : decide (0 ≤ x4_1) = true := decide_eq_true c17
                              clear c17
                              by_cases c18 : x4_1 < (l0.length : Int)
                              · rw [if_pos c18] at H
                                have c18b0 : decide (x4_1 < (l0.length : Int)) = true := decide_eq_true c18
                                clear c18
                                by_cases c19 : ((rd_T41 x3_3 (ji14)).f1) < ((rd_T41 l0 x4_1).f1)
                                · rw [if_pos c19] at H
                                  have c19b0 : decide (((rd_T41 x3_3 (ji14)).f1) < ((rd_T41 l0 x4_1).f1)) = true := decide_eq_true c19
                                  clear c19
                                  by_cases c20 : 0 ≤ x5_3
                                  · rw [if_pos c20] at H
                                    have c20b0 : decide (0 ≤ x5_3) = true := decide_eq_true c20
                                    clear c20
                                    by_cases c21 : x5_3 < (x3_3.length : Int)
                                    · rw [if_pos c21] at H
                                      have c21b0 : decide (x5_3 < (x3_3.length : Int)) = true := decide_eq_true c21
                                      clear c21
                                      obtain ⟨y174, hy174⟩ : ∃ y_ : List (S41), y_ = (x3_3.set (x5_3 : Int).toNat (⟨(rd_T41 x3_3 (ji14)).f0, (rd_T41 x3_3 (ji14)).f1⟩ : S41)) := ⟨_, rfl⟩
                                      replace H : (spec_SortedParts.l1 k3 l0 y174 x4_1 ji14) = some r := by first | (rw [hy174]; with_reducible exact H) | (have H2_ := (Option.bind_some _ _).symm.trans H; rw [hy174]; with_reducible exact H2_) | (have H2_ := (Option.bind_some _ _).symm.trans H; with_reducible exact H2_) | with_reducible exact H | (rw [hy174]; exact H) | exact H
                                      have Ny174 := Aside0.mk hy174
                                      clear hy174
                                      have H' := Aside0.mk H
                                      clear H
                                      obtain ⟨Ao23, co23, eo23⟩ := Kd.R_slice HO_3.out
                                      subst eo23
                                      have p171 : 0 ≤ ((ji14) : Int) := of_decide_eq_true (by first | (with_reducible assumption) | assumption)
                                      have q171 : (ji14) < (x3_3.length : Int) := of_decide_eq_true (by first | (with_reducible assumption) | assumption)
                                      obtain ⟨ad171, e171, hx171_0, hx171_1⟩ := at_T41 (Kd.R_reads' HO_3.out).2.2 (ji14) p171 q171
                                      cases e171
                                      replace p171 := eq_true p171
                                      replace q171 := eq_true q171
                                      have p172 : 0 ≤ (x4_1 : Int) := of_decide_eq_true (by first | (with_reducible assumption) | assumption)
                                      have q172 : x4_1 < (l0.length : Int) := of_decide_eq_true (by first | (with_reducible assumption) | assumption)
                                      obtain ⟨ad172, e172, hx172_0, hx172_1⟩ := at_T41 HR0.out x4_1 p172 q172
                                      obtain rfl : ad167 = ad172 := (by injection e172)
                                      replace hx172_0 := (HB.out.cell (World.block_lt_of_cell? w _ hx172_0)).trans hx172_0
                                      replace hx172_1 := (HB.out.cell (World.block_lt_of_cell? w _ hx172_1)).trans hx172_1
                                      replace p172 := eq_true p172
                                      replace q172 := eq_true q172
                                      have p173 : 0 ≤ ((ji14) : Int) := of_decide_eq_true (by first | (with_reducible assumption) | assumption)
                                      have q173 : (ji14) < (x3_3.length : Int) := of_decide_eq_true (by first | (with_reducible assumption) | assumption)
                                      obtain ⟨ad173, e173, hx173_0, hx173_1⟩ := at_T41 (Kd.R_reads' HO_3.out).2.2 (ji14) p173 q173
                                      obtain rfl : ad171 = ad173 := (by injection e173)
                                      replace p173 := eq_true p173
                                      replace q173 := eq_true q173
                                      have p22 : 0 ≤ (x5_3 : Int) := of_decide_eq_true (by first | (with_reducible assumption) | assumption)
                                      have q22 : (x5_3 : Int) < ((x3_3.length : Int) : Int) := of_decide_eq_true (by first | (with_reducible assumption) | assumption)
                                      obtain ⟨go22, co22, eo22, gb22, gl22, cl22, HG22⟩ := Kd.R_form HO_3.out (by omega)
                                      (first | cases eo22 | (injection eo22 with ea_ en_ ec_; (first | subst ea_ | (injection ea_ with ea_; subst ea_)); subst ec_; clear en_))
                                      have GB22 := Aside0.mk gb22
                                      have GG22 := Aside0.mk HG22
                                      clear gb22 gl22 HG22
                                      (first | simp only [add_plain] at hx171_0 | skip)
                                      (first | simp only [add_plain] at hx171_1 | skip)
                                      (first | simp only [add_plain] at hx173_0 | skip)
                                      (first | simp only [add_plain] at hx173_1 | skip)
                                      obtain ⟨ce22, hcl22, hM22, hcc22, hfr22⟩ := Kd.R_elem HO_3.out z41 (x5_3 : Int) p22 q22
                                      obtain rfl := k41_openM hM22
                                      have hx22_0 : wr.cell? ⟨go22, (x5_3 : Int).toNat * 2, none⟩ = some (.string ((rd_T41 x3_3 x5_3).f0)) := hcc22 0 _ rfl
                                      have hx22_1 : wr.cell? ⟨go22, (x5_3 : Int).toNat * 2 + 1, none⟩ = some (.int .i64 ((rd_T41 x3_3 x5_3).f1)) := hcc22 1 _ rfl
                                      have hf22_0 : wr.frozen? ⟨go22, (x5_3 : Int).toNat * 2, none⟩ = false := hfr22 0
                                      have hf22_1 : wr.frozen? ⟨go22, (x5_3 : Int).toNat * 2 + 1, none⟩ = false := hfr22 1
                                      clear hcl22 hcc22 hfr22; (try clear hM22)
                                      replace p22 := eq_true p22
                                      replace q22 := eq_true q22
                                      have HX24 := Aside0.mk (show Kd.R k41 41 wr w.heap.size (fun _ => True) (.slice (some ⟨go22, 0, none⟩) x3_3.length co23) x3_3 from (by (with_reducible repeat (first | apply Kd.R_alloc | apply Kd.R_drewN | apply Kd.R_drew)); exact HO_3.out))
                                      obtain ⟨ce24, hcl24, hM24, hcc24, hfr24⟩ := Kd.R_elem HX24.out z41 (x5_3 : Int) (of_decide_eq_true (by first | (with_reducible assumption) | assumption)) (by have h_ : (x5_3 : Int) < ((x3_3.length : Int) : Int) := of_decide_eq_true (by first | (with_reducible assumption) | assumption); first | exact h_ | (have e_ := (Kd.R_reads' HO_3.out).1; omega) | simpa using h_)
                                      obtain rfl := k41_openM hM24
                                      have HP24 := Kd.R_seg HX24.out (x5_3 : Int) (of_decide_eq_true (by first | (with_reducible assumption) | assumption)) (by have h_ : (x5_3 : Int) < ((x3_3.length : Int) : Int) := of_decide_eq_true (by first | (with_reducible assumption) | assumption); first | exact h_ | (have e_ := (Kd.R_reads' HO_3.out).1; omega) | simpa using h_) (seg := [.string ((rd_T41 x3_3 (ji14)).f0), .int .i64 ((rd_T41 x3_3 (ji14)).f1)]) (j := 0) hcl24 hcc24 (show 2 ≤ 2 from by decide) (x' := (⟨(rd_T41 x3_3 (ji14)).f0, (rd_T41 x3_3 (ji14)).f1⟩ : S41)) (k41_mkM _ _ _ (⟨(rd_T41 x3_3 (ji14)).f0, (rd_T41 x3_3 (ji14)).f1⟩ : S41) ) (fun _ hk => hk)
                                      have hx24_0 := hcc24 0 _ rfl
                                      (try simp only [show (k41).sz = 2 from rfl, Nat.mul_one, Nat.add_zero] at hx24_0)
                                      have hf24_0 := hfr24 0
                                      (try simp only [show (k41).sz = 2 from rfl, Nat.mul_one, Nat.add_zero] at hf24_0)
                                      have hx24_1 := hcc24 1 _ rfl
                                      (try simp only [show (k41).sz = 2 from rfl, Nat.mul_one, Nat.add_zero] at hx24_1)
                                      have hf24_1 := hfr24 1
                                      (try simp only [show (k41).sz = 2 from rfl, Nat.mul_one, Nat.add_zero] at hf24_1)
                                      clear hcl24 hcc24 hfr24; (try clear hM24)
                                      go_wp2_with (first | ((with_reducible refine gate_store (t := 41) (p := 77) rfl ?_); (try (rw [drewN_self wr]; generalize hq_ : World.drewN wr _ = wr; have n0_ := Aside0.mk (Kd.R_at hq_ HO_3.out); have n1_ := Aside0.mk (below_at hq_ HB.out); clear hq_ HO_3 HB; have HO_3 := n0_; have HB := n1_; clear n0_ n1_; (try (have HX24 := Aside0.mk (show Kd.R k41 41 wr w.heap.size (fun _ => True) (.slice (some ⟨go22, 0, none⟩) x3_3.length co23) x3_3 from (by (with_reducible repeat (first | apply Kd.R_alloc | apply Kd.R_drewN | apply Kd.R_drew)); exact HO_3.out)))); (try (obtain ⟨ce24, hcl24, hM24, hcc24, hfr24⟩ := Kd.R_elem HX24.out z41 (x5_3 : Int) (of_decide_eq_true (by first | (with_reducible assumption) | assumption)) (by have h_ : (x5_3 : Int) < ((x3_3.length : Int) : Int) := of_decide_eq_true (by first | (with_reducible assumption) | assumption); first | exact h_ | (have e_ := (Kd.R_reads' HO_3.out).1; omega) | simpa using h_))); (try (obtain rfl := k41_openM hM24)); (try (have HP24 := Kd.R_seg HX24.out (x5_3 : Int) (of_decide_eq_true (by first | (with_reducible assumption) | assumption)) (by have h_ : (x5_3 : Int) < ((x3_3.length : Int) : Int) := of_decide_eq_true (by first | (with_reducible assumption) | assumption); first | exact h_ | (have e_ := (Kd.R_reads' HO_3.out).1; omega) | simpa using h_) (seg := [.string ((rd_T41 x3_3 (ji14)).f0), .int .i64 ((rd_T41 x3_3 (ji14)).f1)]) (j := 0) hcl24 hcc24 (show 2 ≤ 2 from by decide) (x' := (⟨(rd_T41 x3_3 (ji14)).f0, (rd_T41 x3_3 (ji14)).f1⟩ : S41)) (k41_mkM _ _ _ (⟨(rd_T41 x3_3 (ji14)).f0, (rd_T41 x3_3 (ji14)).f1⟩ : S41) ) (fun _ hk => hk))); (try (have hx24_0 := hcc24 0 _ rfl)); (try (try simp only [show (k41).sz = 2 from rfl, Nat.mul_one, Nat.add_zero] at hx24_0)); (try (have hf24_0 := hfr24 0)); (try (try simp only [show (k41).sz = 2 from rfl, Nat.mul_one, Nat.add_zero] at hf24_0)); (try (have hx24_1 := hcc24 1 _ rfl)); (try (try simp only [show (k41).sz = 2 from rfl, Nat.mul_one, Nat.add_zero] at hx24_1)); (try (have hf24_1 := hfr24 1)); (try (try simp only [show (k41).sz = 2 from rfl, Nat.mul_one, Nat.add_zero] at hf24_1)); (try (clear hcl24 hcc24 hfr24; (try clear hM24))))); refine store_event (t := 41) (p := 77) (v := ?vo_w25) (w1 := ((wr.setCell ⟨go22, (x5_3 : Int).toNat * 2, none⟩ (.string ((rd_T41 x3_3 (ji14)).f0))).setCell ⟨go22, (x5_3 : Int).toNat * 2 + 1, none⟩ (.int .i64 ((rd_T41 x3_3 (ji14)).f1)))) ?hg ?ho ?hn ?hr ?_; (case ho => rfl); (case hg => rfl); (case hn => rfl); (case hr => first | (go_simp; done) | (go_simp; rfl)); intro w25 hw; have hg : wr.grownBy w25 (some go22) := (by rw [hw]; exact HP24.2); have hp_ : Kd.R k41 41 w25 w.heap.size (fun _ => True) (.slice (some ⟨go22, 0, none⟩) x3_3.length co23) y174 := (by rw [hw, Ny174.out]; exact HP24.1); clear HP24; have n0_ := Aside0.mk (hp_); have n1_ := Aside0.mk ((by rw [hw]; exact below_set (below_set (HB.out) GB22.out) GB22.out : Below w.heap.size w w25)); clear HO_3; clear HB; have HO_3 := n0_; have HB := n1_; clear n0_ n1_; clear hg hw hp_))
                                      repeat (go_quiet (first | ((with_reducible refine gate_store (t := 41) (p := 77) rfl ?_); (try (rw [drewN_self wr]; generalize hq_ : World.drewN wr _ = wr; have n0_ := Aside0.mk (Kd.R_at hq_ HO_3.out); have n1_ := Aside0.mk (below_at hq_ HB.out); clear hq_ HO_3 HB; have HO_3 := n0_; have HB := n1_; clear n0_ n1_; (try (have HX24 := Aside0.mk (show Kd.R k41 41 wr w.heap.size (fun _ => True) (.slice (some ⟨go22, 0, none⟩) x3_3.length co23) x3_3 from (by (with_reducible repeat (first | apply Kd.R_alloc | apply Kd.R_drewN | apply Kd.R_drew)); exact HO_3.out)))); (try (obtain ⟨ce24, hcl24, hM24, hcc24, hfr24⟩ := Kd.R_elem HX24.out z41 (x5_3 : Int) (of_decide_eq_true (by first | (with_reducible assumption) | assumption)) (by have h_ : (x5_3 : Int) < ((x3_3.length : Int) : Int) := of_decide_eq_true (by first | (with_reducible assumption) | assumption); first | exact h_ | (have e_ := (Kd.R_reads' HO_3.out).1; omega) | simpa using h_))); (try (obtain rfl := k41_openM hM24)); (try (have HP24 := Kd.R_seg HX24.out (x5_3 : Int) (of_decide_eq_true (by first | (with_reducible assumption) | assumption)) (by have h_ : (x5_3 : Int) < ((x3_3.length : Int) : Int) := of_decide_eq_true (by first | (with_reducible assumption) | assumption); first | exact h_ | (have e_ := (Kd.R_reads' HO_3.out).1; omega) | simpa using h_) (seg := [.string ((rd_T41 x3_3 (ji14)).f0), .int .i64 ((rd_T41 x3_3 (ji14)).f1)]) (j := 0) hcl24 hcc24 (show 2 ≤ 2 from by decide) (x' := (⟨(rd_T41 x3_3 (ji14)).f0, (rd_T41 x3_3 (ji14)).f1⟩ : S41)) (k41_mkM _ _ _ (⟨(rd_T41 x3_3 (ji14)).f0, (rd_T41 x3_3 (ji14)).f1⟩ : S41) ) (fun _ hk => hk))); (try (have hx24_0 := hcc24 0 _ rfl)); (try (try simp only [show (k41).sz = 2 from rfl, Nat.mul_one, Nat.add_zero] at hx24_0)); (try (have hf24_0 := hfr24 0)); (try (try simp only [show (k41).sz = 2 from rfl, Nat.mul_one, Nat.add_zero] at hf24_0)); (try (have hx24_1 := hcc24 1 _ rfl)); (try (try simp only [show (k41).sz = 2 from rfl, Nat.mul_one, Nat.add_zero] at hx24_1)); (try (have hf24_1 := hfr24 1)); (try (try simp only [show (k41).sz = 2 from rfl, Nat.mul_one, Nat.add_zero] at hf24_1)); (try (clear hcl24 hcc24 hfr24; (try clear hM24))))); refine store_event (t := 41) (p := 77) (v := ?vo_w25) (w1 := ((wr.setCell ⟨go22, (x5_3 : Int).toNat * 2, none⟩ (.string ((rd_T41 x3_3 (ji14)).f0))).setCell ⟨go22, (x5_3 : Int).toNat * 2 + 1, none⟩ (.int .i64 ((rd_T41 x3_3 (ji14)).f1)))) ?hg ?ho ?hn ?hr ?_; (case ho => rfl); (case hg => rfl); (case hn => rfl); (case hr => first | (go_simp; done) | (go_simp; rfl)); intro w25 hw; have hg : wr.grownBy w25 (some go22) := (by rw [hw]; exact HP24.2); have hp_ : Kd.R k41 41 w25 w.heap.size (fun _ => True) (.slice (some ⟨go22, 0, none⟩) x3_3.length co23) y174 := (by rw [hw, Ny174.out]; exact HP24.1); clear HP24; have n0_ := Aside0.mk (hp_); have n1_ := Aside0.mk ((by rw [hw]; exact below_set (below_set (HB.out) GB22.out) GB22.out : Below w.heap.size w w25)); clear HO_3; clear HB; have HO_3 := n0_; have HB := n1_; clear n0_ n1_; clear hg hw hp_)); try go_wp2_with (first | ((with_reducible refine gate_store (t := 41) (p := 77) rfl ?_); (try (rw [drewN_self wr]; generalize hq_ : World.drewN wr _ = wr; have n0_ := Aside0.mk (Kd.R_at hq_ HO_3.out); have n1_ := Aside0.mk (below_at hq_ HB.out); clear hq_ HO_3 HB; have HO_3 := n0_; have HB := n1_; clear n0_ n1_; (try (have HX24 := Aside0.mk (show Kd.R k41 41 wr w.heap.size (fun _ => True) (.slice (some ⟨go22, 0, none⟩) x3_3.length co23) x3_3 from (by (with_reducible repeat (first | apply Kd.R_alloc | apply Kd.R_drewN | apply Kd.R_drew)); exact HO_3.out)))); (try (obtain ⟨ce24, hcl24, hM24, hcc24, hfr24⟩ := Kd.R_elem HX24.out z41 (x5_3 : Int) (of_decide_eq_true (by first | (with_reducible assumption) | assumption)) (by have h_ : (x5_3 : Int) < ((x3_3.length : Int) : Int) := of_decide_eq_true (by first | (with_reducible assumption) | assumption); first | exact h_ | (have e_ := (Kd.R_reads' HO_3.out).1; omega) | simpa using h_))); (try (obtain rfl := k41_openM hM24)); (try (have HP24 := Kd.R_seg HX24.out (x5_3 : Int) (of_decide_eq_true (by first | (with_reducible assumption) | assumption)) (by have h_ : (x5_3 : Int) < ((x3_3.length : Int) : Int) := of_decide_eq_true (by first | (with_reducible assumption) | assumption); first | exact h_ | (have e_ := (Kd.R_reads' HO_3.out).1; omega) | simpa using h_) (seg := [.string ((rd_T41 x3_3 (ji14)).f0), .int .i64 ((rd_T41 x3_3 (ji14)).f1)]) (j := 0) hcl24 hcc24 (show 2 ≤ 2 from by decide) (x' := (⟨(rd_T41 x3_3 (ji14)).f0, (rd_T41 x3_3 (ji14)).f1⟩ : S41)) (k41_mkM _ _ _ (⟨(rd_T41 x3_3 (ji14)).f0, (rd_T41 x3_3 (ji14)).f1⟩ : S41) ) (fun _ hk => hk))); (try (have hx24_0 := hcc24 0 _ rfl)); (try (try simp only [show (k41).sz = 2 from rfl, Nat.mul_one, Nat.add_zero] at hx24_0)); (try (have hf24_0 := hfr24 0)); (try (try simp only [show (k41).sz = 2 from rfl, Nat.mul_one, Nat.add_zero] at hf24_0)); (try (have hx24_1 := hcc24 1 _ rfl)); (try (try simp only [show (k41).sz = 2 from rfl, Nat.mul_one, Nat.add_zero] at hx24_1)); (try (have hf24_1 := hfr24 1)); (try (try simp only [show (k41).sz = 2 from rfl, Nat.mul_one, Nat.add_zero] at hf24_1)); (try (clear hcl24 hcc24 hfr24; (try clear hM24))))); refine store_event (t := 41) (p := 77) (v := ?vo_w25) (w1 := ((wr.setCell ⟨go22, (x5_3 : Int).toNat * 2, none⟩ (.string ((rd_T41 x3_3 (ji14)).f0))).setCell ⟨go22, (x5_3 : Int).toNat * 2 + 1, none⟩ (.int .i64 ((rd_T41 x3_3 (ji14)).f1)))) ?hg ?ho ?hn ?hr ?_; (case ho => rfl); (case hg => rfl); (case hn => rfl); (case hr => first | (go_simp; done) | (go_simp; rfl)); intro w25 hw; have hg : wr.grownBy w25 (some go22) := (by rw [hw]; exact HP24.2); have hp_ : Kd.R k41 41 w25 w.heap.size (fun _ => True) (.slice (some ⟨go22, 0, none⟩) x3_3.length co23) y174 := (by rw [hw, Ny174.out]; exact HP24.1); clear HP24; have n0_ := Aside0.mk (hp_); have n1_ := Aside0.mk ((by rw [hw]; exact below_set (below_set (HB.out) GB22.out) GB22.out : Below w.heap.size w w25)); clear HO_3; clear HB; have HO_3 := n0_; have HB := n1_; clear n0_ n1_; clear hg hw hp_)))
                                      go_roundg k3
                                      case measure => have := HK1.out; have := HJ3.out; have := HK3.out; omega
                                      case rel => exact ⟨(y174), (ji14), (by first | rfl | (simp; done) | (simp only [← hji14] <;> (first | rfl | simp)) | (simp [*]; done)), H', ⟨by have := HK1.out; have := HJ3.out; have := HK3.out; omega⟩, ⟨by (with_reducible repeat (first | apply Kd.R_alloc | apply Kd.R_drewN | apply Kd.R_drew)); exact HO_3.out⟩, ⟨by repeat (first | (with_reducible first | exact HB.out | apply below_alloc | apply pw_below_drewN | apply below_drew1) | exact HB.out)⟩⟩
                                    · rw [if_neg c21] at H
                                      exact absurd H (by simp)
                                  · rw [if_neg c20] at H
                                    exact absurd H (by simp)
                                · rw [if_neg c19] at H
                                  have c19b0 : decide (((rd_T41 x3_3 (ji14)).f1) < ((rd_T41 l0 x4_1).f1)) = false := decide_eq_false c19
                                  clear c19
                                  by_cases c26 : ((rd_T41 x3_3 (ji14)).f1) = ((rd_T41 l0 x4_1).f1)
                                  · rw [if_pos c26] at H
                                    have c26b0 : (((rd_T41 x3_3 (ji14)).f1) == ((rd_T41 l0 x4_1).f1)) = true := beq_iff_eq.mpr c26
                                    have c26b1 : (((rd_T41 x3_3 (ji14)).f1) != ((rd_T41 l0 x4_1).f1)) = false := bne_eq_false_iff_eq.mpr c26
                                    clear c26
                                    by_cases c27 : (Op.bytesLess (((rd_T41 l0 x4_1).f0).toList) (((rd_T41 x3_3 (ji14)).f0).toList)) = true
                                    · rw [if_pos c27] at H
                                      have c27b0 : (Op.bytesLess (((rd_T41 l0 x4_1).f0).toList) (((rd_T41 x3_3 (ji14)).f0).toList)) = true := c27
                                      clear c27
                                      by_cases c28 : 0 ≤ x5_3
                                      · rw [if_pos c28] at H
                                        have c28b0 : decide (0 ≤ x5_3) = true := decide_eq_true c28
                                        clear c28
                                        by_cases c29 : x5_3 < (x3_3.length : Int)
                                        · rw [if_pos c29] at H
                                          have c29b0 : decide (x5_3 < (x3_3.length : Int)) = true := decide_eq_true c29
                                          clear c29
                                          obtain ⟨y180, hy180⟩ : ∃ y_ : List (S41), y_ = (x3_3.set (x5_3 : Int).toNat (⟨(rd_T41 x3_3 (ji14)).f0, (rd_T41 x3_3 (ji14)).f1⟩ : S41)) := ⟨_, rfl⟩
                                          replace H : (spec_SortedParts.l1 k3 l0 y180 x4_1 ji14) = some r := by first | (rw [hy180]; with_reducible exact H) | (have H2_ := (Option.bind_some _ _).symm.trans H; rw [hy180]; with_reducible exact H2_) | (have H2_ := (Option.bind_some _ _).symm.trans H; with_reducible exact H2_) | with_reducible exact H | (rw [hy180]; exact H) | exact H
                                          have Ny180 := Aside0.mk hy180
                                          clear hy180
                                          have H' := Aside0.mk H
                                          clear H
                                          obtain ⟨Ao31, co31, eo31⟩ := Kd.R_slice HO_3.out
                                          subst eo31
                                          have p171 : 0 ≤ ((ji14) : Int) := of_decide_eq_true (by first | (with_reducible assumption) | assumption)
                                          have q171 : (ji14) < (x3_3.length : Int) := of_decide_eq_true (by first | (with_reducible assumption) | assumption)
                                          obtain ⟨ad171, e171, hx171_0, hx171_1⟩ := at_T41 (Kd.R_reads' HO_3.out).2.2 (ji14) p171 q171
                                          cases e171
                                          replace p171 := eq_true p171
                                          replace q171 := eq_true q171
                                          have p172 : 0 ≤ (x4_1 : Int) := of_decide_eq_true (by first | (with_reducible assumption) | assumption)
                                          have q172 : x4_1 < (l0.length : Int) := of_decide_eq_true (by first | (with_reducible assumption) | assumption)
                                          obtain ⟨ad172, e172, hx172_0, hx172_1⟩ := at_T41 HR0.out x4_1 p172 q172
                                          obtain rfl : ad167 = ad172 := (by injection e172)
                                          replace hx172_0 := (HB.out.cell (World.block_lt_of_cell? w _ hx172_0)).trans hx172_0
                                          replace hx172_1 := (HB.out.cell (World.block_lt_of_cell? w _ hx172_1)).trans hx172_1
                                          replace p172 := eq_true p172
                                          replace q172 := eq_true q172
                                          have p175 : 0 ≤ ((ji14) : Int) := of_decide_eq_true (by first | (with_reducible assumption) | assumption)
                                          have q175 : (ji14) < (x3_3.length : Int) := of_decide_eq_true (by first | (with_reducible assumption) | assumption)
                                          obtain ⟨ad175, e175, hx175_0, hx175_1⟩ := at_T41 (Kd.R_reads' HO_3.out).2.2 (ji14) p175 q175
                                          obtain rfl : ad171 = ad175 := (by injection e175)
                                          replace p175 := eq_true p175
                                          replace q175 := eq_true q175
                                          have p176 : 0 ≤ (x4_1 : Int) := of_decide_eq_true (by first | (with_reducible assumption) | assumption)
                                          have q176 : x4_1 < (l0.length : Int) := of_decide_eq_true (by first | (with_reducible assumption) | assumption)
                                          obtain ⟨ad176, e176, hx176_0, hx176_1⟩ := at_T41 HR0.out x4_1 p176 q176
                                          obtain rfl : ad167 = ad176 := (by injection e176)
                                          replace hx176_0 := (HB.out.cell (World.block_lt_of_cell? w _ hx176_0)).trans hx176_0
                                          replace hx176_1 := (HB.out.cell (World.block_lt_of_cell? w _ hx176_1)).trans hx176_1
                                          replace p176 := eq_true p176
                                          replace q176 := eq_true q176
                                          have p177 : 0 ≤ ((ji14) : Int) := of_decide_eq_true (by first | (with_reducible assumption) | assumption)
                                          have q177 : (ji14) < (x3_3.length : Int) := of_decide_eq_true (by first | (with_reducible assumption) | assumption)
                                          obtain ⟨ad177, e177, hx177_0, hx177_1⟩ := at_T41 (Kd.R_reads' HO_3.out).2.2 (ji14) p177 q177
                                          obtain rfl : ad171 = ad177 := (by injection e177)
                                          replace p177 := eq_true p177
                                          replace q177 := eq_true q177
                                          have p178 : 0 ≤ (x4_1 : Int) := of_decide_eq_true (by first | (with_reducible assumption) | assumption)
                                          have q178 : x4_1 < (l0.length : Int) := of_decide_eq_true (by first | (with_reducible assumption) | assumption)
                                          obtain ⟨ad178, e178, hx178_0, hx178_1⟩ := at_T41 HR0.out x4_1 p178 q178
                                          obtain rfl : ad167 = ad178 := (by injection e178)
                                          replace hx178_0 := (HB.out.cell (World.block_lt_of_cell? w _ hx178_0)).trans hx178_0
                                          replace hx178_1 := (HB.out.cell (World.block_lt_of_cell? w _ hx178_1)).trans hx178_1
                                          replace p178 := eq_true p178
                                          replace q178 := eq_true q178
                                          have p179 : 0 ≤ ((ji14) : Int) := of_decide_eq_true (by first | (with_reducible assumption) | assumption)
                                          have q179 : (ji14) < (x3_3.length : Int) := of_decide_eq_true (by first | (with_reducible assumption) | assumption)
                                          obtain ⟨ad179, e179, hx179_0, hx179_1⟩ := at_T41 (Kd.R_reads' HO_3.out).2.2 (ji14) p179 q179
                                          obtain rfl : ad171 = ad179 := (by injection e179)
                                          replace p179 := eq_true p179
                                          replace q179 := eq_true q179
                                          have p30 : 0 ≤ (x5_3 : Int) := of_decide_eq_true (by first | (with_reducible assumption) | assumption)
                                          have q30 : (x5_3 : Int) < ((x3_3.length : Int) : Int) := of_decide_eq_true (by first | (with_reducible assumption) | assumption)
                                          obtain ⟨go30, co30, eo30, gb30, gl30, cl30, HG30⟩ := Kd.R_form HO_3.out (by omega)
                                          (first | cases eo30 | (injection eo30 with ea_ en_ ec_; (first | subst ea_ | (injection ea_ with ea_; subst ea_)); subst ec_; clear en_))
                                          have GB30 := Aside0.mk gb30
                                          have GG30 := Aside0.mk HG30
                                          clear gb30 gl30 HG30
                                          (first | simp only [add_plain] at hx171_0 | skip)
                                          (first | simp only [add_plain] at hx171_1 | skip)
                                          (first | simp only [add_plain] at hx175_0 | skip)
                                          (first | simp only [add_plain] at hx175_1 | skip)
                                          (first | simp only [add_plain] at hx177_0 | skip)
                                          (first | simp only [add_plain] at hx177_1 | skip)
                                          (first | simp only [add_plain] at hx179_0 | skip)
                                          (first | simp only [add_plain] at hx179_1 | skip)
                                          obtain ⟨ce30, hcl30, hM30, hcc30, hfr30⟩ := Kd.R_elem HO_3.out z41 (x5_3 : Int) p30 q30
                                          obtain rfl := k41_openM hM30
                                          have hx30_0 : wr.cell? ⟨go30, (x5_3 : Int).toNat * 2, none⟩ = some (.string ((rd_T41 x3_3 x5_3).f0)) := hcc30 0 _ rfl
                                          have hx30_1 : wr.cell? ⟨go30, (x5_3 : Int).toNat * 2 + 1, none⟩ = some (.int .i64 ((rd_T41 x3_3 x5_3).f1)) := hcc30 1 _ rfl
                                          have hf30_0 : wr.frozen? ⟨go30, (x5_3 : Int).toNat * 2, none⟩ = false := hfr30 0
                                          have hf30_1 : wr.frozen? ⟨go30, (x5_3 : Int).toNat * 2 + 1, none⟩ = false := hfr30 1
                                          clear hcl30 hcc30 hfr30; (try clear hM30)
                                          replace p30 := eq_true p30
                                          replace q30 := eq_true q30
                                          have HX32 := Aside0.mk (show Kd.R k41 41 wr w.heap.size (fun _ => True) (.slice (some ⟨go30, 0, none⟩) x3_3.length co31) x3_3 from (by (with_reducible repeat (first | apply Kd.R_alloc | apply Kd.R_drewN | apply Kd.R_drew)); exact HO_3.out))
                                          obtain ⟨ce32, hcl32, hM32, hcc32, hfr32⟩ := Kd.R_elem HX32.out z41 (x5_3 : Int) (of_decide_eq_true (by first | (with_reducible assumption) | assumption)) (by have h_ : (x5_3 : Int) < ((x3_3.length : Int) : Int) := of_decide_eq_true (by first | (with_reducible assumption) | assumption); first | exact h_ | (have e_ := (Kd.R_reads' HO_3.out).1; omega) | simpa using h_)
                                          obtain rfl := k41_openM hM32
                                          have HP32 := Kd.R_seg HX32.out (x5_3 : Int) (of_decide_eq_true (by first | (with_reducible assumption) | assumption)) (by have h_ : (x5_3 : Int) < ((x3_3.length : Int) : Int) := of_decide_eq_true (by first | (with_reducible assumption) | assumption); first | exact h_ | (have e_ := (Kd.R_reads' HO_3.out).1; omega) | simpa using h_) (seg := [.string ((rd_T41 x3_3 (ji14)).f0), .int .i64 ((rd_T41 x3_3 (ji14)).f1)]) (j := 0) hcl32 hcc32 (show 2 ≤ 2 from by decide) (x' := (⟨(rd_T41 x3_3 (ji14)).f0, (rd_T41 x3_3 (ji14)).f1⟩ : S41)) (k41_mkM _ _ _ (⟨(rd_T41 x3_3 (ji14)).f0, (rd_T41 x3_3 (ji14)).f1⟩ : S41) ) (fun _ hk => hk)
                                          have hx32_0 := hcc32 0 _ rfl
                                          (try simp only [show (k41).sz = 2 from rfl, Nat.mul_one, Nat.add_zero] at hx32_0)
                                          have hf32_0 := hfr32 0
                                          (try simp only [show (k41).sz = 2 from rfl, Nat.mul_one, Nat.add_zero] at hf32_0)
                                          have hx32_1 := hcc32 1 _ rfl
                                          (try simp only [show (k41).sz = 2 from rfl, Nat.mul_one, Nat.add_zero] at hx32_1)
                                          have hf32_1 := hfr32 1
                                          (try simp only [show (k41).sz = 2 from rfl, Nat.mul_one, Nat.add_zero] at hf32_1)
                                          clear hcl32 hcc32 hfr32; (try clear hM32)
                                          go_wp2_with (first | ((with_reducible refine gate_store (t := 41) (p := 77) rfl ?_); (try (rw [drewN_self wr]; generalize hq_ : World.drewN wr _ = wr; have n0_ := Aside0.mk (Kd.R_at hq_ HO_3.out); have n1_ := Aside0.mk (below_at hq_ HB.out); clear hq_ HO_3 HB; have HO_3 := n0_; have HB := n1_; clear n0_ n1_; (try (have HX32 := Aside0.mk (show Kd.R k41 41 wr w.heap.size (fun _ => True) (.slice (some ⟨go30, 0, none⟩) x3_3.length co31) x3_3 from (by (with_reducible repeat (first | apply Kd.R_alloc | apply Kd.R_drewN | apply Kd.R_drew)); exact HO_3.out)))); (try (obtain ⟨ce32, hcl32, hM32, hcc32, hfr32⟩ := Kd.R_elem HX32.out z41 (x5_3 : Int) (of_decide_eq_true (by first | (with_reducible assumption) | assumption)) (by have h_ : (x5_3 : Int) < ((x3_3.length : Int) : Int) := of_decide_eq_true (by first | (with_reducible assumption) | assumption); first | exact h_ | (have e_ := (Kd.R_reads' HO_3.out).1; omega) | simpa using h_))); (try (obtain rfl := k41_openM hM32)); (try (have HP32 := Kd.R_seg HX32.out (x5_3 : Int) (of_decide_eq_true (by first | (with_reducible assumption) | assumption)) (by have h_ : (x5_3 : Int) < ((x3_3.length : Int) : Int) := of_decide_eq_true (by first | (with_reducible assumption) | assumption); first | exact h_ | (have e_ := (Kd.R_reads' HO_3.out).1; omega) | simpa using h_) (seg := [.string ((rd_T41 x3_3 (ji14)).f0), .int .i64 ((rd_T41 x3_3 (ji14)).f1)]) (j := 0) hcl32 hcc32 (show 2 ≤ 2 from by decide) (x' := (⟨(rd_T41 x3_3 (ji14)).f0, (rd_T41 x3_3 (ji14)).f1⟩ : S41)) (k41_mkM _ _ _ (⟨(rd_T41 x3_3 (ji14)).f0, (rd_T41 x3_3 (ji14)).f1⟩ : S41) ) (fun _ hk => hk))); (try (have hx32_0 := hcc32 0 _ rfl)); (try (try simp only [show (k41).sz = 2 from rfl, Nat.mul_one, Nat.add_zero] at hx32_0)); (try (have hf32_0 := hfr32 0)); (try (try simp only [show (k41).sz = 2 from rfl, Nat.mul_one, Nat.add_zero] at hf32_0)); (try (have hx32_1 := hcc32 1 _ rfl)); (try (try simp only [show (k41).sz = 2 from rfl, Nat.mul_one, Nat.add_zero] at hx32_1)); (try (have hf32_1 := hfr32 1)); (try (try simp only [show (k41).sz = 2 from rfl, Nat.mul_one, Nat.add_zero] at hf32_1)); (try (clear hcl32 hcc32 hfr32; (try clear hM32))))); refine store_event (t := 41) (p := 77) (v := ?vo_w33) (w1 := ((wr.setCell ⟨go30, (x5_3 : Int).toNat * 2, none⟩ (.string ((rd_T41 x3_3 (ji14)).f0))).setCell ⟨go30, (x5_3 : Int).toNat * 2 + 1, none⟩ (.int .i64 ((rd_T41 x3_3 (ji14)).f1)))) ?hg ?ho ?hn ?hr ?_; (case ho => rfl); (case hg => rfl); (case hn => rfl); (case hr => first | (go_simp; done) | (go_simp; rfl)); intro w33 hw; have hg : wr.grownBy w33 (some go30) := (by rw [hw]; exact HP32.2); have hp_ : Kd.R k41 41 w33 w.heap.size (fun _ => True) (.slice (some ⟨go30, 0, none⟩) x3_3.length co31) y180 := (by rw [hw, Ny180.out]; exact HP32.1); clear HP32; have n0_ := Aside0.mk (hp_); have n1_ := Aside0.mk ((by rw [hw]; exact below_set (below_set (HB.out) GB30.out) GB30.out : Below w.heap.size w w33)); clear HO_3; clear HB; have HO_3 := n0_; have HB := n1_; clear n0_ n1_; clear hg hw hp_))
                                          repeat (go_quiet (first | ((with_reducible refine gate_store (t := 41) (p := 77) rfl ?_); (try (rw [drewN_self wr]; generalize hq_ : World.drewN wr _ = wr; have n0_ := Aside0.mk (Kd.R_at hq_ HO_3.out); have n1_ := Aside0.mk (below_at hq_ HB.out); clear hq_ HO_3 HB; have HO_3 := n0_; have HB := n1_; clear n0_ n1_; (try (have HX32 := Aside0.mk (show Kd.R k41 41 wr w.heap.size (fun _ => True) (.slice (some ⟨go30, 0, none⟩) x3_3.length co31) x3_3 from (by (with_reducible repeat (first | apply Kd.R_alloc | apply Kd.R_drewN | apply Kd.R_drew)); exact HO_3.out)))); (try (obtain ⟨ce32, hcl32, hM32, hcc32, hfr32⟩ := Kd.R_elem HX32.out z41 (x5_3 : Int) (of_decide_eq_true (by first | (with_reducible assumption) | assumption)) (by have h_ : (x5_3 : Int) < ((x3_3.length : Int) : Int) := of_decide_eq_true (by first | (with_reducible assumption) | assumption); first | exact h_ | (have e_ := (Kd.R_reads' HO_3.out).1; omega) | simpa using h_))); (try (obtain rfl := k41_openM hM32)); (try (have HP32 := Kd.R_seg HX32.out (x5_3 : Int) (of_decide_eq_true (by first | (with_reducible assumption) | assumption)) (by have h_ : (x5_3 : Int) < ((x3_3.length : Int) : Int) := of_decide_eq_true (by first | (with_reducible assumption) | assumption); first | exact h_ | (have e_ := (Kd.R_reads' HO_3.out).1; omega) | simpa using h_) (seg := [.string ((rd_T41 x3_3 (ji14)).f0), .int .i64 ((rd_T41 x3_3 (ji14)).f1)]) (j := 0) hcl32 hcc32 (show 2 ≤ 2 from by decide) (x' := (⟨(rd_T41 x3_3 (ji14)).f0, (rd_T41 x3_3 (ji14)).f1⟩ : S41)) (k41_mkM _ _ _ (⟨(rd_T41 x3_3 (ji14)).f0, (rd_T41 x3_3 (ji14)).f1⟩ : S41) ) (fun _ hk => hk))); (try (have hx32_0 := hcc32 0 _ rfl)); (try (try simp only [show (k41).sz = 2 from rfl, Nat.mul_one, Nat.add_zero] at hx32_0)); (try (have hf32_0 := hfr32 0)); (try (try simp only [show (k41).sz = 2 from rfl, Nat.mul_one, Nat.add_zero] at hf32_0)); (try (have hx32_1 := hcc32 1 _ rfl)); (try (try simp only [show (k41).sz = 2 from rfl, Nat.mul_one, Nat.add_zero] at hx32_1)); (try (have hf32_1 := hfr32 1)); (try (try simp only [show (k41).sz = 2 from rfl, Nat.mul_one, Nat.add_zero] at hf32_1)); (try (clear hcl32 hcc32 hfr32; (try clear hM32))))); refine store_event (t := 41) (p := 77) (v := ?vo_w33) (w1 := ((wr.setCell ⟨go30, (x5_3 : Int).toNat * 2, none⟩ (.string ((rd_T41 x3_3 (ji14)).f0))).setCell ⟨go30, (x5_3 : Int).toNat * 2 + 1, none⟩ (.int .i64 ((rd_T41 x3_3 (ji14)).f1)))) ?hg ?ho ?hn ?hr ?_; (case ho => rfl); (case hg => rfl); (case hn => rfl); (case hr => first | (go_simp; done) | (go_simp; rfl)); intro w33 hw; have hg : wr.grownBy w33 (some go30) := (by rw [hw]; exact HP32.2); have hp_ : Kd.R k41 41 w33 w.heap.size (fun _ => True) (.slice (some ⟨go30, 0, none⟩) x3_3.length co31) y180 := (by rw [hw, Ny180.out]; exact HP32.1); clear HP32; have n0_ := Aside0.mk (hp_); have n1_ := Aside0.mk ((by rw [hw]; exact below_set (below_set (HB.out) GB30.out) GB30.out : Below w.heap.size w w33)); clear HO_3; clear HB; have HO_3 := n0_; have HB := n1_; clear n0_ n1_; clear hg hw hp_)); try go_wp2_with (first | ((with_reducible refine gate_store (t := 41) (p := 77) rfl ?_); (try (rw [drewN_self wr]; generalize hq_ : World.drewN wr _ = wr; have n0_ := Aside0.mk (Kd.R_at hq_ HO_3.out); have n1_ := Aside0.mk (below_at hq_ HB.out); clear hq_ HO_3 HB; have HO_3 := n0_; have HB := n1_; clear n0_ n1_; (try (have HX32 := Aside0.mk (show Kd.R k41 41 wr w.heap.size (fun _ => True) (.slice (some ⟨go30, 0, none⟩) x3_3.length co31) x3_3 from (by (with_reducible repeat (first | apply Kd.R_alloc | apply Kd.R_drewN | apply Kd.R_drew)); exact HO_3.out)))); (try (obtain ⟨ce32, hcl32, hM32, hcc32, hfr32⟩ := Kd.R_elem HX32.out z41 (x5_3 : Int) (of_decide_eq_true (by first | (with_reducible assumption) | assumption)) (by have h_ : (x5_3 : Int) < ((x3_3.length : Int) : Int) := of_decide_eq_true (by first | (with_reducible assumption) | assumption); first | exact h_ | (have e_ := (Kd.R_reads' HO_3.out).1; omega) | simpa using h_))); (try (obtain rfl := k41_openM hM32)); (try (have HP32 := Kd.R_seg HX32.out (x5_3 : Int) (of_decide_eq_true (by first | (with_reducible assumption) | assumption)) (by have h_ : (x5_3 : Int) < ((x3_3.length : Int) : Int) := of_decide_eq_true (by first | (with_reducible assumption) | assumption); first | exact h_ | (have e_ := (Kd.R_reads' HO_3.out).1; omega) | simpa using h_) (seg := [.string ((rd_T41 x3_3 (ji14)).f0), .int .i64 ((rd_T41 x3_3 (ji14)).f1)]) (j := 0) hcl32 hcc32 (show 2 ≤ 2 from by decide) (x' := (⟨(rd_T41 x3_3 (ji14)).f0, (rd_T41 x3_3 (ji14)).f1⟩ : S41)) (k41_mkM _ _ _ (⟨(rd_T41 x3_3 (ji14)).f0, (rd_T41 x3_3 (ji14)).f1⟩ : S41) ) (fun _ hk => hk))); (try (have hx32_0 := hcc32 0 _ rfl)); (try (try simp only [show (k41).sz = 2 from rfl, Nat.mul_one, Nat.add_zero] at hx32_0)); (try (have hf32_0 := hfr32 0)); (try (try simp only [show (k41).sz = 2 from rfl, Nat.mul_one, Nat.add_zero] at hf32_0)); (try (have hx32_1 := hcc32 1 _ rfl)); (try (try simp only [show (k41).sz = 2 from rfl, Nat.mul_one, Nat.add_zero] at hx32_1)); (try (have hf32_1 := hfr32 1)); (try (try simp only [show (k41).sz = 2 from rfl, Nat.mul_one, Nat.add_zero] at hf32_1)); (try (clear hcl32 hcc32 hfr32; (try clear hM32))))); refine store_event (t := 41) (p := 77) (v := ?vo_w33) (w1 := ((wr.setCell ⟨go30, (x5_3 : Int).toNat * 2, none⟩ (.string ((rd_T41 x3_3 (ji14)).f0))).setCell ⟨go30, (x5_3 : Int).toNat * 2 + 1, none⟩ (.int .i64 ((rd_T41 x3_3 (ji14)).f1)))) ?hg ?ho ?hn ?hr ?_; (case ho => rfl); (case hg => rfl); (case hn => rfl); (case hr => first | (go_simp; done) | (go_simp; rfl)); intro w33 hw; have hg : wr.grownBy w33 (some go30) := (by rw [hw]; exact HP32.2); have hp_ : Kd.R k41 41 w33 w.heap.size (fun _ => True) (.slice (some ⟨go30, 0, none⟩) x3_3.length co31) y180 := (by rw [hw, Ny180.out]; exact HP32.1); clear HP32; have n0_ := Aside0.mk (hp_); have n1_ := Aside0.mk ((by rw [hw]; exact below_set (below_set (HB.out) GB30.out) GB30.out : Below w.heap.size w w33)); clear HO_3; clear HB; have HO_3 := n0_; have HB := n1_; clear n0_ n1_; clear hg hw hp_)))
                                          go_roundg k3
                                          case measure => have := HK1.out; have := HJ3.out; have := HK3.out; omega
                                          case rel => exact ⟨(y180), (ji14), (by first | rfl | (simp; done) | (simp only [← hji14] <;> (first | rfl | simp)) | (simp [*]; done)), H', ⟨by have := HK1.out; have := HJ3.out; have := HK3.out; omega⟩, ⟨by (with_reducible repeat (first | apply Kd.R_alloc | apply Kd.R_drewN | apply Kd.R_drew)); exact HO_3.out⟩, ⟨by repeat (first | (with_reducible first | exact HB.out | apply below_alloc | apply pw_below_drewN | apply below_drew1) | exact HB.out)⟩⟩
                                        · rw [if_neg c29] at H
                                          exact absurd H (by simp)
                                      · rw [if_neg c28] at H
                                        exact absurd H (by simp)
                                    · rw [if_neg c27] at H
                                      have c27b0 : (Op.bytesLess (((rd_T41 l0 x4_1).f0).toList) (((rd_T41 x3_3 (ji14)).f0).toList)) = false := by simpa using c27
                                      clear c27
                                      by_cases c34 : 0 ≤ x5_3
                                      · rw [if_pos c34] at H
                                        have c34b0 : decide (0 ≤ x5_3) = true := decide_eq_true c34
                                        clear c34
                                        by_cases c35 : x5_3 < (x3_3.length : Int)
                                        · rw [if_pos c35] at H
                                          have c35b0 : decide (x5_3 < (x3_3.length : Int)) = true := decide_eq_true c35
                                          clear c35
                                          obtain ⟨y182, hy182⟩ : ∃ y_ : List (S41), y_ = (x3_3.set (x5_3 : Int).toNat (⟨(rd_T41 l0 x4_1).f0, (rd_T41 l0 x4_1).f1⟩ : S41)) := ⟨_, rfl⟩
                                          replace H : (spec_SortedParts.l0 k3 l0 y182 (wrap64 (x4_1 + 1))) = some r := by first | (rw [hy182]; with_reducible exact H) | (have H2_ := (Option.bind_some _ _).symm.trans H; rw [hy182]; with_reducible exact H2_) | (have H2_ := (Option.bind_some _ _).symm.trans H; with_reducible exact H2_) | with_reducible exact H | (rw [hy182]; exact H) | exact H
                                          have Ny182 := Aside0.mk hy182
                                          clear hy182
                                          have H' := Aside0.mk H
                                          clear H
                                          obtain ⟨Ao37, co37, eo37⟩ := Kd.R_slice HO_3.out
                                          subst eo37
                                          have p171 : 0 ≤ ((ji14) : Int) := of_decide_eq_true (by first | (with_reducible assumption) | assumption)
                                          have q171 : (ji14) < (x3_3.length : Int) := of_decide_eq_true (by first | (with_reducible assumption) | assumption)
                                          obtain ⟨ad171, e171, hx171_0, hx171_1⟩ := at_T41 (Kd.R_reads' HO_3.out).2.2 (ji14) p171 q171
                                          cases e171
                                          replace p171 := eq_true p171
                                          replace q171 := eq_true q171
                                          have p172 : 0 ≤ (x4_1 : Int) := of_decide_eq_true (by first | (with_reducible assumption) | assumption)
                                          have q172 : x4_1 < (l0.length : Int) := of_decide_eq_true (by first | (with_reducible assumption) | assumption)
                                          obtain ⟨ad172, e172, hx172_0, hx172_1⟩ := at_T41 HR0.out x4_1 p172 q172
                                          obtain rfl : ad167 = ad172 := (by injection e172)
                                          replace hx172_0 := (HB.out.cell (World.block_lt_of_cell? w _ hx172_0)).trans hx172_0
                                          replace hx172_1 := (HB.out.cell (World.block_lt_of_cell? w _ hx172_1)).trans hx172_1
                                          replace p172 := eq_true p172
                                          replace q172 := eq_true q172
                                          have p175 : 0 ≤ ((ji14) : Int) := of_decide_eq_true (by first | (with_reducible assumption) | assumption)
                                          have q175 : (ji14) < (x3_3.length : Int) := of_decide_eq_true (by first | (with_reducible assumption) | assumption)
                                          obtain ⟨ad175, e175, hx175_0, hx175_1⟩ := at_T41 (Kd.R_reads' HO_3.out).2.2 (ji14) p175 q175
                                          obtain rfl : ad171 = ad175 := (by injection e175)
                                          replace p175 := eq_true p175
                                          replace q175 := eq_true q175
                                          have p176 : 0 ≤ (x4_1 : Int) := of_decide_eq_true (by first | (with_reducible assumption) | assumption)
                                          have q176 : x4_1 < (l0.length : Int) := of_decide_eq_true (by first | (with_reducible assumption) | assumption)
                                          obtain ⟨ad176, e176, hx176_0, hx176_1⟩ := at_T41 HR0.out x4_1 p176 q176
                                          obtain rfl : ad167 = ad176 := (by injection e176)
                                          replace hx176_0 := (HB.out.cell (World.block_lt_of_cell? w _ hx176_0)).trans hx176_0
                                          replace hx176_1 := (HB.out.cell (World.block_lt_of_cell? w _ hx176_1)).trans hx176_1
                                          replace p176 := eq_true p176
                                          replace q176 := eq_true q176
                                          have p177 : 0 ≤ ((ji14) : Int) := of_decide_eq_true (by first | (with_reducible assumption) | assumption)
                                          have q177 : (ji14) < (x3_3.length : Int) := of_decide_eq_true (by first | (with_reducible assumption) | assumption)
                                          obtain ⟨ad177, e177, hx177_0, hx177_1⟩ := at_T41 (Kd.R_reads' HO_3.out).2.2 (ji14) p177 q177
                                          obtain rfl : ad171 = ad177 := (by injection e177)
                                          replace p177 := eq_true p177
                                          replace q177 := eq_true q177
                                          have p178 : 0 ≤ (x4_1 : Int) := of_decide_eq_true (by first | (with_reducible assumption) | assumption)
                                          have q178 : x4_1 < (l0.length : Int) := of_decide_eq_true (by first | (with_reducible assumption) | assumption)
                                          obtain ⟨ad178, e178, hx178_0, hx178_1⟩ := at_T41 HR0.out x4_1 p178 q178
                                          obtain rfl : ad167 = ad178 := (by injection e178)
                                          replace hx178_0 := (HB.out.cell (World.block_lt_of_cell? w _ hx178_0)).trans hx178_0
                                          replace hx178_1 := (HB.out.cell (World.block_lt_of_cell? w _ hx178_1)).trans hx178_1
                                          replace p178 := eq_true p178
                                          replace q178 := eq_true q178
                                          have p181 : 0 ≤ (x4_1 : Int) := of_decide_eq_true (by first | (with_reducible assumption) | assumption)
                                          have q181 : x4_1 < (l0.length : Int) := of_decide_eq_true (by first | (with_reducible assumption) | assumption)
                                          obtain ⟨ad181, e181, hx181_0, hx181_1⟩ := at_T41 HR0.out x4_1 p181 q181
                                          obtain rfl : ad167 = ad181 := (by injection e181)
                                          replace hx181_0 := (HB.out.cell (World.block_lt_of_cell? w _ hx181_0)).trans hx181_0
                                          replace hx181_1 := (HB.out.cell (World.block_lt_of_cell? w _ hx181_1)).trans hx181_1
                                          replace p181 := eq_true p181
                                          replace q181 := eq_true q181
                                          have p36 : 0 ≤ (x5_3 : Int) := of_decide_eq_true (by first | (with_reducible assumption) | assumption)
                                          have q36 : (x5_3 : Int) < ((x3_3.length : Int) : Int) := of_decide_eq_true (by first | (with_reducible assumption) | assumption)
                                          obtain ⟨go36, co36, eo36, gb36, gl36, cl36, HG36⟩ := Kd.R_form HO_3.out (by omega)
                                          (first | cases eo36 | (injection eo36 with ea_ en_ ec_; (first | subst ea_ | (injection ea_ with ea_; subst ea_)); subst ec_; clear en_))
                                          have GB36 := Aside0.mk gb36
                                          have GG36 := Aside0.mk HG36
                                          clear gb36 gl36 HG36
                                          (first | simp only [add_plain] at hx171_0 | skip)
                                          (first | simp only [add_plain] at hx171_1 | skip)
                                          (first | simp only [add_plain] at hx175_0 | skip)
                                          (first | simp only [add_plain] at hx175_1 | skip)
                                          (first | simp only [add_plain] at hx177_0 | skip)
                                          (first | simp only [add_plain] at hx177_1 | skip)
                                          obtain ⟨ce36, hcl36, hM36, hcc36, hfr36⟩ := Kd.R_elem HO_3.out z41 (x5_3 : Int) p36 q36
                                          obtain rfl := k41_openM hM36
                                          have hx36_0 : wr.cell? ⟨go36, (x5_3 : Int).toNat * 2, none⟩ = some (.string ((rd_T41 x3_3 x5_3).f0)) := hcc36 0 _ rfl
                                          have hx36_1 : wr.cell? ⟨go36, (x5_3 : Int).toNat * 2 + 1, none⟩ = some (.int .i64 ((rd_T41 x3_3 x5_3).f1)) := hcc36 1 _ rfl
                                          have hf36_0 : wr.frozen? ⟨go36, (x5_3 : Int).toNat * 2, none⟩ = false := hfr36 0
                                          have hf36_1 : wr.frozen? ⟨go36, (x5_3 : Int).toNat * 2 + 1, none⟩ = false := hfr36 1
                                          clear hcl36 hcc36 hfr36; (try clear hM36)
                                          replace p36 := eq_true p36
                                          replace q36 := eq_true q36
                                          have HX38 := Aside0.mk (show Kd.R k41 41 wr w.heap.size (fun _ => True) (.slice (some ⟨go36, 0, none⟩) x3_3.length co37) x3_3 from (by (with_reducible repeat (first | apply Kd.R_alloc | apply Kd.R_drewN | apply Kd.R_drew)); exact HO_3.out))
                                          obtain ⟨ce38, hcl38, hM38, hcc38, hfr38⟩ := Kd.R_elem HX38.out z41 (x5_3 : Int) (of_decide_eq_true (by first | (with_reducible assumption) | assumption)) (by have h_ : (x5_3 : Int) < ((x3_3.length : Int) : Int) := of_decide_eq_true (by first | (with_reducible assumption) | assumption); first | exact h_ | (have e_ := (Kd.R_reads' HO_3.out).1; omega) | simpa using h_)
                                          obtain rfl := k41_openM hM38
                                          have HP38 := Kd.R_seg HX38.out (x5_3 : Int) (of_decide_eq_true (by first | (with_reducible assumption) | assumption)) (by have h_ : (x5_3 : Int) < ((x3_3.length : Int) : Int) := of_decide_eq_true (by first | (with_reducible assumption) | assumption); first | exact h_ | (have e_ := (Kd.R_reads' HO_3.out).1; omega) | simpa using h_) (seg := [.string ((rd_T41 l0 x4_1).f0), .int .i64 ((rd_T41 l0 x4_1).f1)]) (j := 0) hcl38 hcc38 (show 2 ≤ 2 from by decide) (x' := (⟨(rd_T41 l0 x4_1).f0, (rd_T41 l0 x4_1).f1⟩ : S41)) (k41_mkM _ _ _ (⟨(rd_T41 l0 x4_1).f0, (rd_T41 l0 x4_1).f1⟩ : S41) ) (fun _ hk => hk)
                                          have hx38_0 := hcc38 0 _ rfl
                                          (try simp only [show (k41).sz = 2 from rfl, Nat.mul_one, Nat.add_zero] at hx38_0)
                                          have hf38_0 := hfr38 0
                                          (try simp only [show (k41).sz = 2 from rfl, Nat.mul_one, Nat.add_zero] at hf38_0)
                                          have hx38_1 := hcc38 1 _ rfl
                                          (try simp only [show (k41).sz = 2 from rfl, Nat.mul_one, Nat.add_zero] at hx38_1)
                                          have hf38_1 := hfr38 1
                                          (try simp only [show (k41).sz = 2 from rfl, Nat.mul_one, Nat.add_zero] at hf38_1)
                                          clear hcl38 hcc38 hfr38; (try clear hM38)
                                          go_wp2_with (first | ((with_reducible refine gate_store (t := 41) (p := 86) rfl ?_); (try (rw [drewN_self wr]; generalize hq_ : World.drewN wr _ = wr; have n0_ := Aside0.mk (Kd.R_at hq_ HO_3.out); have n1_ := Aside0.mk (below_at hq_ HB.out); clear hq_ HO_3 HB; have HO_3 := n0_; have HB := n1_; clear n0_ n1_; (try (have HX38 := Aside0.mk (show Kd.R k41 41 wr w.heap.size (fun _ => True) (.slice (some ⟨go36, 0, none⟩) x3_3.length co37) x3_3 from (by (with_reducible repeat (first | apply Kd.R_alloc | apply Kd.R_drewN | apply Kd.R_drew)); exact HO_3.out)))); (try (obtain ⟨ce38, hcl38, hM38, hcc38, hfr38⟩ := Kd.R_elem HX38.out z41 (x5_3 : Int) (of_decide_eq_true (by first | (with_reducible assumption) | assumption)) (by have h_ : (x5_3 : Int) < ((x3_3.length : Int) : Int) := of_decide_eq_true (by first | (with_reducible assumption) | assumption); first | exact h_ | (have e_ := (Kd.R_reads' HO_3.out).1; omega) | simpa using h_))); (try (obtain rfl := k41_openM hM38)); (try (have HP38 := Kd.R_seg HX38.out (x5_3 : Int) (of_decide_eq_true (by first | (with_reducible assumption) | assumption)) (by have h_ : (x5_3 : Int) < ((x3_3.length : Int) : Int) := of_decide_eq_true (by first | (with_reducible assumption) | assumption); first | exact h_ | (have e_ := (Kd.R_reads' HO_3.out).1; omega) | simpa using h_) (seg := [.string ((rd_T41 l0 x4_1).f0), .int .i64 ((rd_T41 l0 x4_1).f1)]) (j := 0) hcl38 hcc38 (show 2 ≤ 2 from by decide) (x' := (⟨(rd_T41 l0 x4_1).f0, (rd_T41 l0 x4_1).f1⟩ : S41)) (k41_mkM _ _ _ (⟨(rd_T41 l0 x4_1).f0, (rd_T41 l0 x4_1).f1⟩ : S41) ) (fun _ hk => hk))); (try (have hx38_0 := hcc38 0 _ rfl)); (try (try simp only [show (k41).sz = 2 from rfl, Nat.mul_one, Nat.add_zero] at hx38_0)); (try (have hf38_0 := hfr38 0)); (try (try simp only [show (k41).sz = 2 from rfl, Nat.mul_one, Nat.add_zero] at hf38_0)); (try (have hx38_1 := hcc38 1 _ rfl)); (try (try simp only [show (k41).sz = 2 from rfl, Nat.mul_one, Nat.add_zero] at hx38_1)); (try (have hf38_1 := hfr38 1)); (try (try simp only [show (k41).sz = 2 from rfl, Nat.mul_one, Nat.add_zero] at hf38_1)); (try (clear hcl38 hcc38 hfr38; (try clear hM38))))); refine store_event (t := 41) (p := 86) (v := ?vo_w39) (w1 := ((wr.setCell ⟨go36, (x5_3 : Int).toNat * 2, none⟩ (.string ((rd_T41 l0 x4_1).f0))).setCell ⟨go36, (x5_3 : Int).toNat * 2 + 1, none⟩ (.int .i64 ((rd_T41 l0 x4_1).f1)))) ?hg ?ho ?hn ?hr ?_; (case ho => rfl); (case hg => rfl); (case hn => rfl); (case hr => first | (go_simp; done) | (go_simp; rfl)); intro w39 hw; have hg : wr.grownBy w39 (some go36) := (by rw [hw]; exact HP38.2); have hp_ : Kd.R k41 41 w39 w.heap.size (fun _ => True) (.slice (some ⟨go36, 0, none⟩) x3_3.length co37) y182 := (by rw [hw, Ny182.out]; exact HP38.1); clear HP38; have n0_ := Aside0.mk (hp_); have n1_ := Aside0.mk ((by rw [hw]; exact below_set (below_set (HB.out) GB36.out) GB36.out : Below w.heap.size w w39)); clear HO_3; clear HB; have HO_3 := n0_; have HB := n1_; clear n0_ n1_; clear hg hw hp_))
                                          repeat (go_quiet (first | ((with_reducible refine gate_store (t := 41) (p := 86) rfl ?_); (try (rw [drewN_self wr]; generalize hq_ : World.drewN wr _ = wr; have n0_ := Aside0.mk (Kd.R_at hq_ HO_3.out); have n1_ := Aside0.mk (below_at hq_ HB.out); clear hq_ HO_3 HB; have HO_3 := n0_; have HB := n1_; clear n0_ n1_; (try (have HX38 := Aside0.mk (show Kd.R k41 41 wr w.heap.size (fun _ => True) (.slice (some ⟨go36, 0, none⟩) x3_3.length co37) x3_3 from (by (with_reducible repeat (first | apply Kd.R_alloc | apply Kd.R_drewN | apply Kd.R_drew)); exact HO_3.out)))); (try (obtain ⟨ce38, hcl38, hM38, hcc38, hfr38⟩ := Kd.R_elem HX38.out z41 (x5_3 : Int) (of_decide_eq_true (by first | (with_reducible assumption) | assumption)) (by have h_ : (x5_3 : Int) < ((x3_3.length : Int) : Int) := of_decide_eq_true (by first | (with_reducible assumption) | assumption); first | exact h_ | (have e_ := (Kd.R_reads' HO_3.out).1; omega) | simpa using h_))); (try (obtain rfl := k41_openM hM38)); (try (have HP38 := Kd.R_seg HX38.out (x5_3 : Int) (of_decide_eq_true (by first | (with_reducible assumption) | assumption)) (by have h_ : (x5_3 : Int) < ((x3_3.length : Int) : Int) := of_decide_eq_true (by first | (with_reducible assumption) | assumption); first | exact h_ | (have e_ := (Kd.R_reads' HO_3.out).1; omega) | simpa using h_) (seg := [.string ((rd_T41 l0 x4_1).f0), .int .i64 ((rd_T41 l0 x4_1).f1)]) (j := 0) hcl38 hcc38 (show 2 ≤ 2 from by decide) (x' := (⟨(rd_T41 l0 x4_1).f0, (rd_T41 l0 x4_1).f1⟩ : S41)) (k41_mkM _ _ _ (⟨(rd_T41 l0 x4_1).f0, (rd_T41 l0 x4_1).f1⟩ : S41) ) (fun _ hk => hk))); (try (have hx38_0 := hcc38 0 _ rfl)); (try (try simp only [show (k41).sz = 2 from rfl, Nat.mul_one, Nat.add_zero] at hx38_0)); (try (have hf38_0 := hfr38 0)); (try (try simp only [show (k41).sz = 2 from rfl, Nat.mul_one, Nat.add_zero] at hf38_0)); (try (have hx38_1 := hcc38 1 _ rfl)); (try (try simp only [show (k41).sz = 2 from rfl, Nat.mul_one, Nat.add_zero] at hx38_1)); (try (have hf38_1 := hfr38 1)); (try (try simp only [show (k41).sz = 2 from rfl, Nat.mul_one, Nat.add_zero] at hf38_1)); (try (clear hcl38 hcc38 hfr38; (try clear hM38))))); refine store_event (t := 41) (p := 86) (v := ?vo_w39) (w1 := ((wr.setCell ⟨go36, (x5_3 : Int).toNat * 2, none⟩ (.string ((rd_T41 l0 x4_1).f0))).setCell ⟨go36, (x5_3 : Int).toNat * 2 + 1, none⟩ (.int .i64 ((rd_T41 l0 x4_1).f1)))) ?hg ?ho ?hn ?hr ?_; (case ho => rfl); (case hg => rfl); (case hn => rfl); (case hr => first | (go_simp; done) | (go_simp; rfl)); intro w39 hw; have hg : wr.grownBy w39 (some go36) := (by rw [hw]; exact HP38.2); have hp_ : Kd.R k41 41 w39 w.heap.size (fun _ => True) (.slice (some ⟨go36, 0, none⟩) x3_3.length co37) y182 := (by rw [hw, Ny182.out]; exact HP38.1); clear HP38; have n0_ := Aside0.mk (hp_); have n1_ := Aside0.mk ((by rw [hw]; exact below_set (below_set (HB.out) GB36.out) GB36.out : Below w.heap.size w w39)); clear HO_3; clear HB; have HO_3 := n0_; have HB := n1_; clear n0_ n1_; clear hg hw hp_)); try go_wp2_with (first | ((with_reducible refine gate_store (t := 41) (p := 86) rfl ?_); (try (rw [drewN_self wr]; generalize hq_ : World.drewN wr _ = wr; have n0_ := Aside0.mk (Kd.R_at hq_ HO_3.out); have n1_ := Aside0.mk (below_at hq_ HB.out); clear hq_ HO_3 HB; have HO_3 := n0_; have HB := n1_; clear n0_ n1_; (try (have HX38 := Aside0.mk (show Kd.R k41 41 wr w.heap.size (fun _ => True) (.slice (some ⟨go36, 0, none⟩) x3_3.length co37) x3_3 from (by (with_reducible repeat (first | apply Kd.R_alloc | apply Kd.R_drewN | apply Kd.R_drew)); exact HO_3.out)))); (try (obtain ⟨ce38, hcl38, hM38, hcc38, hfr38⟩ := Kd.R_elem HX38.out z41 (x5_3 : Int) (of_decide_eq_true (by first | (with_reducible assumption) | assumption)) (by have h_ : (x5_3 : Int) < ((x3_3.length : Int) : Int) := of_decide_eq_true (by first | (with_reducible assumption) | assumption); first | exact h_ | (have e_ := (Kd.R_reads' HO_3.out).1; omega) | simpa using h_))); (try (obtain rfl := k41_openM hM38)); (try (have HP38 := Kd.R_seg HX38.out (x5_3 : Int) (of_decide_eq_true (by first | (with_reducible assumption) | assumption)) (by have h_ : (x5_3 : Int) < ((x3_3.length : Int) : Int) := of_decide_eq_true (by first | (with_reducible assumption) | assumption); first | exact h_ | (have e_ := (Kd.R_reads' HO_3.out).1; omega) | simpa using h_) (seg := [.string ((rd_T41 l0 x4_1).f0), .int .i64 ((rd_T41 l0 x4_1).f1)]) (j := 0) hcl38 hcc38 (show 2 ≤ 2 from by decide) (x' := (⟨(rd_T41 l0 x4_1).f0, (rd_T41 l0 x4_1).f1⟩ : S41)) (k41_mkM _ _ _ (⟨(rd_T41 l0 x4_1).f0, (rd_T41 l0 x4_1).f1⟩ : S41) ) (fun _ hk => hk))); (try (have hx38_0 := hcc38 0 _ rfl)); (try (try simp only [show (k41).sz = 2 from rfl, Nat.mul_one, Nat.add_zero] at hx38_0)); (try (have hf38_0 := hfr38 0)); (try (try simp only [show (k41).sz = 2 from rfl, Nat.mul_one, Nat.add_zero] at hf38_0)); (try (have hx38_1 := hcc38 1 _ rfl)); (try (try simp only [show (k41).sz = 2 from rfl, Nat.mul_one, Nat.add_zero] at hx38_1)); (try (have hf38_1 := hfr38 1)); (try (try simp only [show (k41).sz = 2 from rfl, Nat.mul_one, Nat.add_zero] at hf38_1)); (try (clear hcl38 hcc38 hfr38; (try clear hM38))))); refine store_event (t := 41) (p := 86) (v := ?vo_w39) (w1 := ((wr.setCell ⟨go36, (x5_3 : Int).toNat * 2, none⟩ (.string ((rd_T41 l0 x4_1).f0))).setCell ⟨go36, (x5_3 : Int).toNat * 2 + 1, none⟩ (.int .i64 ((rd_T41 l0 x4_1).f1)))) ?hg ?ho ?hn ?hr ?_; (case ho => rfl); (case hg => rfl); (case hn => rfl); (case hr => first | (go_simp; done) | (go_simp; rfl)); intro w39 hw; have hg : wr.grownBy w39 (some go36) := (by rw [hw]; exact HP38.2); have hp_ : Kd.R k41 41 w39 w.heap.size (fun _ => True) (.slice (some ⟨go36, 0, none⟩) x3_3.length co37) y182 := (by rw [hw, Ny182.out]; exact HP38.1); clear HP38; have n0_ := Aside0.mk (hp_); have n1_ := Aside0.mk ((by rw [hw]; exact below_set (below_set (HB.out) GB36.out) GB36.out : Below w.heap.size w w39)); clear HO_3; clear HB; have HO_3 := n0_; have HB := n1_; clear n0_ n1_; clear hg hw hp_)))
                                          go_roundg k3
                                          case measure => have := HK1.out; have := HJ3.out; have := HK3.out; omega
                                          case rel => exact ⟨(y182), (wrap64 (x4_1 + 1)), (by first | rfl | (simp; done) | (simp [*]; done)), H', ⟨by have := HK1.out; have := HJ3.out; have := HK3.out; omega⟩, ⟨by (with_reducible repeat (first | apply Kd.R_alloc | apply Kd.R_drewN | apply Kd.R_drew)); exact HO_3.out⟩, ⟨by repeat (first | (with_reducible first | exact HB.out | apply below_alloc | apply pw_below_drewN | apply below_drew1) | exact HB.out)⟩⟩
                                        · rw [if_neg c35] at H
                                          exact absurd H (by simp)
                                      · rw [if_neg c34] at H
                                        exact absurd H (by simp)
                                  · rw [if_neg c26] at H
                                    have c26b0 : (((rd_T41 x3_3 (ji14)).f1) == ((rd_T41 l0 x4_1).f1)) = false := beq_eq_false_iff_ne.mpr c26
                                    have c26b1 : (((rd_T41 x3_3 (ji14)).f1) != ((rd_T41 l0 x4_1).f1)) = true := bne_iff_ne.mpr c26
                                    by_cases c40 : 0 ≤ x5_3
                                    · rw [if_pos c40] at H
                                      have c40b0 : decide (0 ≤ x5_3) = true := decide_eq_true c40
                                      clear c40
                                      by_cases c41 : x5_3 < (x3_3.length : Int)
                                      · rw [if_pos c41] at H
                                        have c41b0 : decide (x5_3 < (x3_3.length : Int)) = true := decide_eq_true c41
                                        clear c41
                                        obtain ⟨y184, hy184⟩ : ∃ y_ : List (S41), y_ = (x3_3.set (x5_3 : Int).toNat (⟨(rd_T41 l0 x4_1).f0, (rd_T41 l0 x4_1).f1⟩ : S41)) := ⟨_, rfl⟩
                                        replace H : (spec_SortedParts.l0 k3 l0 y184 (wrap64 (x4_1 + 1))) = some r := by first | (rw [hy184]; with_reducible exact H) | (have H2_ := (Option.bind_some _ _).symm.trans H; rw [hy184]; with_reducible exact H2_) | (have H2_ := (Option.bind_some _ _).symm.trans H; with_reducible exact H2_) | with_reducible exact H | (rw [hy184]; exact H) | exact H
                                        have Ny184 := Aside0.mk hy184
                                        clear hy184
                                        have H' := Aside0.mk H
                                        clear H
                                        obtain ⟨Ao43, co43, eo43⟩ := Kd.R_slice HO_3.out
                                        subst eo43
                                        have p171 : 0 ≤ ((ji14) : Int) := of_decide_eq_true (by first | (with_reducible assumption) | assumption)
                                        have q171 : (ji14) < (x3_3.length : Int) := of_decide_eq_true (by first | (with_reducible assumption) | assumption)
                                        obtain ⟨ad171, e171, hx171_0, hx171_1⟩ := at_T41 (Kd.R_reads' HO_3.out).2.2 (ji14) p171 q171
                                        cases e171
                                        replace p171 := eq_true p171
                                        replace q171 := eq_true q171
                                        have p172 : 0 ≤ (x4_1 : Int) := of_decide_eq_true (by first | (with_reducible assumption) | assumption)
                                        have q172 : x4_1 < (l0.length : Int) := of_decide_eq_true (by first | (with_reducible assumption) | assumption)
                                        obtain ⟨ad172, e172, hx172_0, hx172_1⟩ := at_T41 HR0.out x4_1 p172 q172
                                        obtain rfl : ad167 = ad172 := (by injection e172)
                                        replace hx172_0 := (HB.out.cell (World.block_lt_of_cell? w _ hx172_0)).trans hx172_0
                                        replace hx172_1 := (HB.out.cell (World.block_lt_of_cell? w _ hx172_1)).trans hx172_1
                                        replace p172 := eq_true p172
                                        replace q172 := eq_true q172
                                        have p175 : 0 ≤ ((ji14) : Int) := of_decide_eq_true (by first | (with_reducible assumption) | assumption)
                                        have q175 : (ji14) < (x3_3.length : Int) := of_decide_eq_true (by first | (with_reducible assumption) | assumption)
                                        obtain ⟨ad175, e175, hx175_0, hx175_1⟩ := at_T41 (Kd.R_reads' HO_3.out).2.2 (ji14) p175 q175
                                        obtain rfl : ad171 = ad175 := (by injection e175)
                                        replace p175 := eq_true p175
                                        replace q175 := eq_true q175
                                        have p176 : 0 ≤ (x4_1 : Int) := of_decide_eq_true (by first | (with_reducible assumption) | assumption)
                                        have q176 : x4_1 < (l0.length : Int) := of_decide_eq_true (by first | (with_reducible assumption) | assumption)
                                        obtain ⟨ad176, e176, hx176_0, hx176_1⟩ := at_T41 HR0.out x4_1 p176 q176
                                        obtain rfl : ad167 = ad176 := (by injection e176)
                                        replace hx176_0 := (HB.out.cell (World.block_lt_of_cell? w _ hx176_0)).trans hx176_0
                                        replace hx176_1 := (HB.out.cell (World.block_lt_of_cell? w _ hx176_1)).trans hx176_1
                                        replace p176 := eq_true p176
                                        replace q176 := eq_true q176
                                        have p183 : 0 ≤ (x4_1 : Int) := of_decide_eq_true (by first | (with_reducible assumption) | assumption)
                                        have q183 : x4_1 < (l0.length : Int) := of_decide_eq_true (by first | (with_reducible assumption) | assumption)
                                        obtain ⟨ad183, e183, hx183_0, hx183_1⟩ := at_T41 HR0.out x4_1 p183 q183
                                        obtain rfl : ad167 = ad183 := (by injection e183)
                                        replace hx183_0 := (HB.out.cell (World.block_lt_of_cell? w _ hx183_0)).trans hx183_0
                                        replace hx183_1 := (HB.out.cell (World.block_lt_of_cell? w _ hx183_1)).trans hx183_1
                                        replace p183 := eq_true p183
                                        replace q183 := eq_true q183
                                        have p42 : 0 ≤ (x5_3 : Int) := of_decide_eq_true (by first | (with_reducible assumption) | assumption)
                                        have q42 : (x5_3 : Int) < ((x3_3.length : Int) : Int) := of_decide_eq_true (by first | (with_reducible assumption) | assumption)
                                        obtain ⟨go42, co42, eo42, gb42, gl42, cl42, HG42⟩ := Kd.R_form HO_3.out (by omega)
                                        (first | cases eo42 | (injection eo42 with ea_ en_ ec_; (first | subst ea_ | (injection ea_ with ea_; subst ea_)); subst ec_; clear en_))
                                        have GB42 := Aside0.mk gb42
                                        have GG42 := Aside0.mk HG42
                                        clear gb42 gl42 HG42
                                        (first | simp only [add_plain] at hx171_0 | skip)
                                        (first | simp only [add_plain] at hx171_1 | skip)
                                        (first | simp only [add_plain] at hx175_0 | skip)
                                        (first | simp only [add_plain] at hx175_1 | skip)
                                        obtain ⟨ce42, hcl42, hM42, hcc42, hfr42⟩ := Kd.R_elem HO_3.out z41 (x5_3 : Int) p42 q42
                                        obtain rfl := k41_openM hM42
                                        have hx42_0 : wr.cell? ⟨go42, (x5_3 : Int).toNat * 2, none⟩ = some (.string ((rd_T41 x3_3 x5_3).f0)) := hcc42 0 _ rfl
                                        have hx42_1 : wr.cell? ⟨go42, (x5_3 : Int).toNat * 2 + 1, none⟩ = some (.int .i64 ((rd_T41 x3_3 x5_3).f1)) := hcc42 1 _ rfl
                                        have hf42_0 : wr.frozen? ⟨go42, (x5_3 : Int).toNat * 2, none⟩ = false := hfr42 0
                                        have hf42_1 : wr.frozen? ⟨go42, (x5_3 : Int).toNat * 2 + 1, none⟩ = false := hfr42 1
                                        clear hcl42 hcc42 hfr42; (try clear hM42)
                                        replace p42 := eq_true p42
                                        replace q42 := eq_true q42
                                        have HX44 := Aside0.mk (show Kd.R k41 41 wr w.heap.size (fun _ => True) (.slice (some ⟨go42, 0, none⟩) x3_3.length co43) x3_3 from (by (with_reducible repeat (first | apply Kd.R_alloc | apply Kd.R_drewN | apply Kd.R_drew)); exact HO_3.out))
                                        obtain ⟨ce44, hcl44, hM44, hcc44, hfr44⟩ := Kd.R_elem HX44.out z41 (x5_3 : Int) (of_decide_eq_true (by first | (with_reducible assumption) | assumption)) (by have h_ : (x5_3 : Int) < ((x3_3.length : Int) : Int) := of_decide_eq_true (by first | (with_reducible assumption) | assumption); first | exact h_ | (have e_ := (Kd.R_reads' HO_3.out).1; omega) | simpa using h_)
                                        obtain rfl := k41_openM hM44
                                        have HP44 := Kd.R_seg HX44.out (x5_3 : Int) (of_decide_eq_true (by first | (with_reducible assumption) | assumption)) (by have h_ : (x5_3 : Int) < ((x3_3.length : Int) : Int) := of_decide_eq_true (by first | (with_reducible assumption) | assumption); first | exact h_ | (have e_ := (Kd.R_reads' HO_3.out).1; omega) | simpa using h_) (seg := [.string ((rd_T41 l0 x4_1).f0), .int .i64 ((rd_T41 l0 x4_1).f1)]) (j := 0) hcl44 hcc44 (show 2 ≤ 2 from by decide) (x' := (⟨(rd_T41 l0 x4_1).f0, (rd_T41 l0 x4_1).f1⟩ : S41)) (k41_mkM _ _ _ (⟨(rd_T41 l0 x4_1).f0, (rd_T41 l0 x4_1).f1⟩ : S41) ) (fun _ hk => hk)
                                        have hx44_0 := hcc44 0 _ rfl
                                        (try simp only [show (k41).sz = 2 from rfl, Nat.mul_one, Nat.add_zero] at hx44_0)
                                        have hf44_0 := hfr44 0
                                        (try simp only [show (k41).sz = 2 from rfl, Nat.mul_one, Nat.add_zero] at hf44_0)
                                        have hx44_1 := hcc44 1 _ rfl
                                        (try simp only [show (k41).sz = 2 from rfl, Nat.mul_one, Nat.add_zero] at hx44_1)
                                        have hf44_1 := hfr44 1
                                        (try simp only [show (k41).sz = 2 from rfl, Nat.mul_one, Nat.add_zero] at hf44_1)
                                        clear hcl44 hcc44 hfr44; (try clear hM44)
                                        go_wp2_with (first | ((with_reducible refine gate_store (t := 41) (p := 86) rfl ?_); (try (rw [drewN_self wr]; generalize hq_ : World.drewN wr _ = wr; have n0_ := Aside0.mk (Kd.R_at hq_ HO_3.out); have n1_ := Aside0.mk (below_at hq_ HB.out); clear hq_ HO_3 HB; have HO_3 := n0_; have HB := n1_; clear n0_ n1_; (try (have HX44 := Aside0.mk (show Kd.R k41 41 wr w.heap.size (fun _ => True) (.slice (some ⟨go42, 0, none⟩) x3_3.length co43) x3_3 from (by (with_reducible repeat (first | apply Kd.R_alloc | apply Kd.R_drewN | apply Kd.R_drew)); exact HO_3.out)))); (try (obtain ⟨ce44, hcl44, hM44, hcc44, hfr44⟩ := Kd.R_elem HX44.out z41 (x5_3 : Int) (of_decide_eq_true (by first | (with_reducible assumption) | assumption)) (by have h_ : (x5_3 : Int) < ((x3_3.length : Int) : Int) := of_decide_eq_true (by first | (with_reducible assumption) | assumption); first | exact h_ | (have e_ := (Kd.R_reads' HO_3.out).1; omega) | simpa using h_))); (try (obtain rfl := k41_openM hM44)); (try (have HP44 := Kd.R_seg HX44.out (x5_3 : Int) (of_decide_eq_true (by first | (with_reducible assumption) | assumption)) (by have h_ : (x5_3 : Int) < ((x3_3.length : Int) : Int) := of_decide_eq_true (by first | (with_reducible assumption) | assumption); first | exact h_ | (have e_ := (Kd.R_reads' HO_3.out).1; omega) | simpa using h_) (seg := [.string ((rd_T41 l0 x4_1).f0), .int .i64 ((rd_T41 l0 x4_1).f1)]) (j := 0) hcl44 hcc44 (show 2 ≤ 2 from by decide) (x' := (⟨(rd_T41 l0 x4_1).f0, (rd_T41 l0 x4_1).f1⟩ : S41)) (k41_mkM _ _ _ (⟨(rd_T41 l0 x4_1).f0, (rd_T41 l0 x4_1).f1⟩ : S41) ) (fun _ hk => hk))); (try (have hx44_0 := hcc44 0 _ rfl)); (try (try simp only [show (k41).sz = 2 from rfl, Nat.mul_one, Nat.add_zero] at hx44_0)); (try (have hf44_0 := hfr44 0)); (try (try simp only [show (k41).sz = 2 from rfl, Nat.mul_one, Nat.add_zero] at hf44_0)); (try (have hx44_1 := hcc44 1 _ rfl)); (try (try simp only [show (k41).sz = 2 from rfl, Nat.mul_one, Nat.add_zero] at hx44_1)); (try (have hf44_1 := hfr44 1)); (try (try simp only [show (k41).sz = 2 from rfl, Nat.mul_one, Nat.add_zero] at hf44_1)); (try (clear hcl44 hcc44 hfr44; (try clear hM44))))); refine store_event (t := 41) (p := 86) (v := ?vo_w45) (w1 := ((wr.setCell ⟨go42, (x5_3 : Int).toNat * 2, none⟩ (.string ((rd_T41 l0 x4_1).f0))).setCell ⟨go42, (x5_3 : Int).toNat * 2 + 1, none⟩ (.int .i64 ((rd_T41 l0 x4_1).f1)))) ?hg ?ho ?hn ?hr ?_; (case ho => rfl); (case hg => rfl); (case hn => rfl); (case hr => first | (go_simp; done) | (go_simp; rfl)); intro w45 hw; have hg : wr.grownBy w45 (some go42) := (by rw [hw]; exact HP44.2); have hp_ : Kd.R k41 41 w45 w.heap.size (fun _ => True) (.slice (some ⟨go42, 0, none⟩) x3_3.length co43) y184 := (by rw [hw, Ny184.out]; exact HP44.1); clear HP44; have n0_ := Aside0.mk (hp_); have n1_ := Aside0.mk ((by rw [hw]; exact below_set (below_set (HB.out) GB42.out) GB42.out : Below w.heap.size w w45)); clear HO_3; clear HB; have HO_3 := n0_; have HB := n1_; clear n0_ n1_; clear hg hw hp_))
                                        repeat (go_quiet (first | ((with_reducible refine gate_store (t := 41) (p := 86) rfl ?_); (try (rw [drewN_self wr]; generalize hq_ : World.drewN wr _ = wr; have n0_ := Aside0.mk (Kd.R_at hq_ HO_3.out); have n1_ := Aside0.mk (below_at hq_ HB.out); clear hq_ HO_3 HB; have HO_3 := n0_; have HB := n1_; clear n0_ n1_; (try (have HX44 := Aside0.mk (show Kd.R k41 41 wr w.heap.size (fun _ => True) (.slice (some ⟨go42, 0, none⟩) x3_3.length co43) x3_3 from (by (with_reducible repeat (first | apply Kd.R_alloc | apply Kd.R_drewN | apply Kd.R_drew)); exact HO_3.out)))); (try (obtain ⟨ce44, hcl44, hM44, hcc44, hfr44⟩ := Kd.R_elem HX44.out z41 (x5_3 : Int) (of_decide_eq_true (by first | (with_reducible assumption) | assumption)) (by have h_ : (x5_3 : Int) < ((x3_3.length : Int) : Int) := of_decide_eq_true (by first | (with_reducible assumption) | assumption); first | exact h_ | (have e_ := (Kd.R_reads' HO_3.out).1; omega) | simpa using h_))); (try (obtain rfl := k41_openM hM44)); (try (have HP44 := Kd.R_seg HX44.out (x5_3 : Int) (of_decide_eq_true (by first | (with_reducible assumption) | assumption)) (by have h_ : (x5_3 : Int) < ((x3_3.length : Int) : Int) := of_decide_eq_true (by first | (with_reducible assumption) | assumption); first | exact h_ | (have e_ := (Kd.R_reads' HO_3.out).1; omega) | simpa using h_) (seg := [.string ((rd_T41 l0 x4_1).f0), .int .i64 ((rd_T41 l0 x4_1).f1)]) (j := 0) hcl44 hcc44 (show 2 ≤ 2 from by decide) (x' := (⟨(rd_T41 l0 x4_1).f0, (rd_T41 l0 x4_1).f1⟩ : S41)) (k41_mkM _ _ _ (⟨(rd_T41 l0 x4_1).f0, (rd_T41 l0 x4_1).f1⟩ : S41) ) (fun _ hk => hk))); (try (have hx44_0 := hcc44 0 _ rfl)); (try (try simp only [show (k41).sz = 2 from rfl, Nat.mul_one, Nat.add_zero] at hx44_0)); (try (have hf44_0 := hfr44 0)); (try (try simp only [show (k41).sz = 2 from rfl, Nat.mul_one, Nat.add_zero] at hf44_0)); (try (have hx44_1 := hcc44 1 _ rfl)); (try (try simp only [show (k41).sz = 2 from rfl, Nat.mul_one, Nat.add_zero] at hx44_1)); (try (have hf44_1 := hfr44 1)); (try (try simp only [show (k41).sz = 2 from rfl, Nat.mul_one, Nat.add_zero] at hf44_1)); (try (clear hcl44 hcc44 hfr44; (try clear hM44))))); refine store_event (t := 41) (p := 86) (v := ?vo_w45) (w1 := ((wr.setCell ⟨go42, (x5_3 : Int).toNat * 2, none⟩ (.string ((rd_T41 l0 x4_1).f0))).setCell ⟨go42, (x5_3 : Int).toNat * 2 + 1, none⟩ (.int .i64 ((rd_T41 l0 x4_1).f1)))) ?hg ?ho ?hn ?hr ?_; (case ho => rfl); (case hg => rfl); (case hn => rfl); (case hr => first | (go_simp; done) | (go_simp; rfl)); intro w45 hw; have hg : wr.grownBy w45 (some go42) := (by rw [hw]; exact HP44.2); have hp_ : Kd.R k41 41 w45 w.heap.size (fun _ => True) (.slice (some ⟨go42, 0, none⟩) x3_3.length co43) y184 := (by rw [hw, Ny184.out]; exact HP44.1); clear HP44; have n0_ := Aside0.mk (hp_); have n1_ := Aside0.mk ((by rw [hw]; exact below_set (below_set (HB.out) GB42.out) GB42.out : Below w.heap.size w w45)); clear HO_3; clear HB; have HO_3 := n0_; have HB := n1_; clear n0_ n1_; clear hg hw hp_)); try go_wp2_with (first | ((with_reducible refine gate_store (t := 41) (p := 86) rfl ?_); (try (rw [drewN_self wr]; generalize hq_ : World.drewN wr _ = wr; have n0_ := Aside0.mk (Kd.R_at hq_ HO_3.out); have n1_ := Aside0.mk (below_at hq_ HB.out); clear hq_ HO_3 HB; have HO_3 := n0_; have HB := n1_; clear n0_ n1_; (try (have HX44 := Aside0.mk (show Kd.R k41 41 wr w.heap.size (fun _ => True) (.slice (some ⟨go42, 0, none⟩) x3_3.length co43) x3_3 from (by (with_reducible repeat (first | apply Kd.R_alloc | apply Kd.R_drewN | apply Kd.R_drew)); exact HO_3.out)))); (try (obtain ⟨ce44, hcl44, hM44, hcc44, hfr44⟩ := Kd.R_elem HX44.out z41 (x5_3 : Int) (of_decide_eq_true (by first | (with_reducible assumption) | assumption)) (by have h_ : (x5_3 : Int) < ((x3_3.length : Int) : Int) := of_decide_eq_true (by first | (with_reducible assumption) | assumption); first | exact h_ | (have e_ := (Kd.R_reads' HO_3.out).1; omega) | simpa using h_))); (try (obtain rfl := k41_openM hM44)); (try (have HP44 := Kd.R_seg HX44.out (x5_3 : Int) (of_decide_eq_true (by first | (with_reducible assumption) | assumption)) (by have h_ : (x5_3 : Int) < ((x3_3.length : Int) : Int) := of_decide_eq_true (by first | (with_reducible assumption) | assumption); first | exact h_ | (have e_ := (Kd.R_reads' HO_3.out).1; omega) | simpa using h_) (seg := [.string ((rd_T41 l0 x4_1).f0), .int .i64 ((rd_T41 l0 x4_1).f1)]) (j := 0) hcl44 hcc44 (show 2 ≤ 2 from by decide) (x' := (⟨(rd_T41 l0 x4_1).f0, (rd_T41 l0 x4_1).f1⟩ : S41)) (k41_mkM _ _ _ (⟨(rd_T41 l0 x4_1).f0, (rd_T41 l0 x4_1).f1⟩ : S41) ) (fun _ hk => hk))); (try (have hx44_0 := hcc44 0 _ rfl)); (try (try simp only [show (k41).sz = 2 from rfl, Nat.mul_one, Nat.add_zero] at hx44_0)); (try (have hf44_0 := hfr44 0)); (try (try simp only [show (k41).sz = 2 from rfl, Nat.mul_one, Nat.add_zero] at hf44_0)); (try (have hx44_1 := hcc44 1 _ rfl)); (try (try simp only [show (k41).sz = 2 from rfl, Nat.mul_one, Nat.add_zero] at hx44_1)); (try (have hf44_1 := hfr44 1)); (try (try simp only [show (k41).sz = 2 from rfl, Nat.mul_one, Nat.add_zero] at hf44_1)); (try (clear hcl44 hcc44 hfr44; (try clear hM44))))); refine store_event (t := 41) (p := 86) (v := ?vo_w45) (w1 := ((wr.setCell ⟨go42, (x5_3 : Int).toNat * 2, none⟩ (.string ((rd_T41 l0 x4_1).f0))).setCell ⟨go42, (x5_3 : Int).toNat * 2 + 1, none⟩ (.int .i64 ((rd_T41 l0 x4_1).f1)))) ?hg ?ho ?hn ?hr ?_; (case ho => rfl); (case hg => rfl); (case hn => rfl); (case hr => first | (go_simp; done) | (go_simp; rfl)); intro w45 hw; have hg : wr.grownBy w45 (some go42) := (by rw [hw]; exact HP44.2); have hp_ : Kd.R k41 41 w45 w.heap.size (fun _ => True) (.slice (some ⟨go42, 0, none⟩) x3_3.length co43) y184 := (by rw [hw, Ny184.out]; exact HP44.1); clear HP44; have n0_ := Aside0.mk (hp_); have n1_ := Aside0.mk ((by rw [hw]; exact below_set (below_set (HB.out) GB42.out) GB42.out : Below w.heap.size w w45)); clear HO_3; clear HB; have HO_3 := n0_; have HB := n1_; clear n0_ n1_; clear hg hw hp_)))
                                        go_roundg k3
                                        case measure => have := HK1.out; have := HJ3.out; have := HK3.out; omega
                                        case rel => exact ⟨(y184), (wrap64 (x4_1 + 1)), (by first | rfl | (simp; done) | (simp [*]; done)), H', ⟨by have := HK1.out; have := HJ3.out; have := HK3.out; omega⟩, ⟨by (with_reducible repeat (first | apply Kd.R_alloc | apply Kd.R_drewN | apply Kd.R_drew)); exact HO_3.out⟩, ⟨by repeat (first | (with_reducible first | exact HB.out | apply below_alloc | apply pw_below_drewN | apply below_drew1) | exact HB.out)⟩⟩
                                      · rw [if_neg c41] at H
                                        exact absurd H (by simp)
                                    · rw [if_neg c40] at H
                                      exact absurd H (by simp)
                              · rw [if_neg c18] at H
                                exact absurd H (by simp)
                            · rw [if_neg c17] at H
                              exact absurd H (by simp)
                          · rw [if_neg c16] at H
                            exact absurd H (by simp)
                        · rw [if_neg c15] at H
                          exact absurd H (by simp)
                      · rw [if_neg c13] at H
                        have c13b0 : decide (0 < x5_3) = false := decide_eq_false c13
                        clear c13
                        by_cases c46 : 0 ≤ x4_1
                        · rw [if_pos c46] at H
                          have c46b0 : decide (0 ≤ x4_1) = true := decide_eq_true c46
                          clear c46
                          by_cases c47 : x4_1 < (l0.length : Int)
                          · rw [if_pos c47] at H
                            have c47b0 : decide (x4_1 < (l0.length : Int)) = true := decide_eq_true c47
                            clear c47
                            by_cases c48 : 0 ≤ x5_3
                            · rw [if_pos c48] at H
                              have c48b0 : decide (0 ≤ x5_3) = true := decide_eq_true c48
                              clear c48
                              by_cases c49 : x5_3 < (x3_3.length : Int)
                              · rw [if_pos c49] at H
                                have c49b0 : decide (x5_3 < (x3_3.length : Int)) = true := decide_eq_true c49
                                clear c49
                                obtain ⟨y186, hy186⟩ : ∃ y_ : List (S41), y_ = (x3_3.set (x5_3 : Int).toNat (⟨(rd_T41 l0 x4_1).f0, (rd_T41 l0 x4_1).f1⟩ : S41)) := ⟨_, rfl⟩
                                replace H : (spec_SortedParts.l0 k3 l0 y186 (wrap64 (x4_1 + 1))) = some r := by first | (rw [hy186]; with_reducible exact H) | (have H2_ := (Option.bind_some _ _).symm.trans H; rw [hy186]; with_reducible exact H2_) | (have H2_ := (Option.bind_some _ _).symm.trans H; with_reducible exact H2_) | with_reducible exact H | (rw [hy186]; exact H) | exact H
                                have Ny186 := Aside0.mk hy186
                                clear hy186
                                have H' := Aside0.mk H
                                clear H
                                have p185 : 0 ≤ (x4_1 : Int) := of_decide_eq_true (by first | (with_reducible assumption) | assumption)
                                have q185 : x4_1 < (l0.length : Int) := of_decide_eq_true (by first | (with_reducible assumption) | assumption)
                                obtain ⟨ad185, e185, hx185_0, hx185_1⟩ := at_T41 HR0.out x4_1 p185 q185
                                obtain rfl : ad167 = ad185 := (by injection e185)
                                replace hx185_0 := (HB.out.cell (World.block_lt_of_cell? w _ hx185_0)).trans hx185_0
                                replace hx185_1 := (HB.out.cell (World.block_lt_of_cell? w _ hx185_1)).trans hx185_1
                                replace p185 := eq_true p185
                                replace q185 := eq_true q185
                                have p50 : 0 ≤ (x5_3 : Int) := of_decide_eq_true (by first | (with_reducible assumption) | assumption)
                                have q50 : (x5_3 : Int) < ((x3_3.length : Int) : Int) := of_decide_eq_true (by first | (with_reducible assumption) | assumption)
                                obtain ⟨go50, co50, eo50, gb50, gl50, cl50, HG50⟩ := Kd.R_form HO_3.out (by omega)
                                (first | cases eo50 | (injection eo50 with ea_ en_ ec_; (first | subst ea_ | (injection ea_ with ea_; subst ea_)); subst ec_; clear en_))
                                have GB50 := Aside0.mk gb50
                                have GG50 := Aside0.mk HG50
                                clear gb50 gl50 HG50
                                obtain ⟨ce50, hcl50, hM50, hcc50, hfr50⟩ := Kd.R_elem HO_3.out z41 (x5_3 : Int) p50 q50
                                obtain rfl := k41_openM hM50
                                have hx50_0 : wr.cell? ⟨go50, (x5_3 : Int).toNat * 2, none⟩ = some (.string ((rd_T41 x3_3 x5_3).f0)) := hcc50 0 _ rfl
                                have hx50_1 : wr.cell? ⟨go50, (x5_3 : Int).toNat * 2 + 1, none⟩ = some (.int .i64 ((rd_T41 x3_3 x5_3).f1)) := hcc50 1 _ rfl
                                have hf50_0 : wr.frozen? ⟨go50, (x5_3 : Int).toNat * 2, none⟩ = false := hfr50 0
                                have hf50_1 : wr.frozen? ⟨go50, (x5_3 : Int).toNat * 2 + 1, none⟩ = false := hfr50 1
                                clear hcl50 hcc50 hfr50; (try clear hM50)
                                replace p50 := eq_true p50
                                replace q50 := eq_true q50
                                have HX51 := Aside0.mk (show Kd.R k41 41 wr w.heap.size (fun _ => True) (.slice (some ⟨go50, 0, none⟩) x3_3.length co50) x3_3 from (by (with_reducible repeat (first | apply Kd.R_alloc | apply Kd.R_drewN | apply Kd.R_drew)); exact HO_3.out))
                                obtain ⟨ce51, hcl51, hM51, hcc51, hfr51⟩ := Kd.R_elem HX51.out z41 (x5_3 : Int) (of_decide_eq_true (by first | (with_reducible assumption) | assumption)) (by have h_ : (x5_3 : Int) < ((x3_3.length : Int) : Int) := of_decide_eq_true (by first | (with_reducible assumption) | assumption); first | exact h_ | (have e_ := (Kd.R_reads' HO_3.out).1; omega) | simpa using h_)
                                obtain rfl := k41_openM hM51
                                have HP51 := Kd.R_seg HX51.out (x5_3 : Int) (of_decide_eq_true (by first | (with_reducible assumption) | assumption)) (by have h_ : (x5_3 : Int) < ((x3_3.length : Int) : Int) := of_decide_eq_true (by first | (with_reducible assumption) | assumption); first | exact h_ | (have e_ := (Kd.R_reads' HO_3.out).1; omega) | simpa using h_) (seg := [.string ((rd_T41 l0 x4_1).f0), .int .i64 ((rd_T41 l0 x4_1).f1)]) (j := 0) hcl51 hcc51 (show 2 ≤ 2 from by decide) (x' := (⟨(rd_T41 l0 x4_1).f0, (rd_T41 l0 x4_1).f1⟩ : S41)) (k41_mkM _ _ _ (⟨(rd_T41 l0 x4_1).f0, (rd_T41 l0 x4_1).f1⟩ : S41) ) (fun _ hk => hk)
                                have hx51_0 := hcc51 0 _ rfl
                                (try simp only [show (k41).sz = 2 from rfl, Nat.mul_one, Nat.add_zero] at hx51_0)
                                have hf51_0 := hfr51 0
                                (try simp only [show (k41).sz = 2 from rfl, Nat.mul_one, Nat.add_zero] at hf51_0)
                                have hx51_1 := hcc51 1 _ rfl
                                (try simp only [show (k41).sz = 2 from rfl, Nat.mul_one, Nat.add_zero] at hx51_1)
                                have hf51_1 := hfr51 1
                                (try simp only [show (k41).sz = 2 from rfl, Nat.mul_one, Nat.add_zero] at hf51_1)
                                clear hcl51 hcc51 hfr51; (try clear hM51)
                                go_wp2_with (first | ((with_reducible refine gate_store (t := 41) (p := 86) rfl ?_); (try (rw [drewN_self wr]; generalize hq_ : World.drewN wr _ = wr; have n0_ := Aside0.mk (Kd.R_at hq_ HO_3.out); have n1_ := Aside0.mk (below_at hq_ HB.out); clear hq_ HO_3 HB; have HO_3 := n0_; have HB := n1_; clear n0_ n1_; (try (have HX51 := Aside0.mk (show Kd.R k41 41 wr w.heap.size (fun _ => True) (.slice (some ⟨go50, 0, none⟩) x3_3.length co50) x3_3 from (by (with_reducible repeat (first | apply Kd.R_alloc | apply Kd.R_drewN | apply Kd.R_drew)); exact HO_3.out)))); (try (obtain ⟨ce51, hcl51, hM51, hcc51, hfr51⟩ := Kd.R_elem HX51.out z41 (x5_3 : Int) (of_decide_eq_true (by first | (with_reducible assumption) | assumption)) (by have h_ : (x5_3 : Int) < ((x3_3.length : Int) : Int) := of_decide_eq_true (by first | (with_reducible assumption) | assumption); first | exact h_ | (have e_ := (Kd.R_reads' HO_3.out).1; omega) | simpa using h_))); (try (obtain rfl := k41_openM hM51)); (try (have HP51 := Kd.R_seg HX51.out (x5_3 : Int) (of_decide_eq_true (by first | (with_reducible assumption) | assumption)) (by have h_ : (x5_3 : Int) < ((x3_3.length : Int) : Int) := of_decide_eq_true (by first | (with_reducible assumption) | assumption); first | exact h_ | (have e_ := (Kd.R_reads' HO_3.out).1; omega) | simpa using h_) (seg := [.string ((rd_T41 l0 x4_1).f0), .int .i64 ((rd_T41 l0 x4_1).f1)]) (j := 0) hcl51 hcc51 (show 2 ≤ 2 from by decide) (x' := (⟨(rd_T41 l0 x4_1).f0, (rd_T41 l0 x4_1).f1⟩ : S41)) (k41_mkM _ _ _ (⟨(rd_T41 l0 x4_1).f0, (rd_T41 l0 x4_1).f1⟩ : S41) ) (fun _ hk => hk))); (try (have hx51_0 := hcc51 0 _ rfl)); (try (try simp only [show (k41).sz = 2 from rfl, Nat.mul_one, Nat.add_zero] at hx51_0)); (try (have hf51_0 := hfr51 0)); (try (try simp only [show (k41).sz = 2 from rfl, Nat.mul_one, Nat.add_zero] at hf51_0)); (try (have hx51_1 := hcc51 1 _ rfl)); (try (try simp only [show (k41).sz = 2 from rfl, Nat.mul_one, Nat.add_zero] at hx51_1)); (try (have hf51_1 := hfr51 1)); (try (try simp only [show (k41).sz = 2 from rfl, Nat.mul_one, Nat.add_zero] at hf51_1)); (try (clear hcl51 hcc51 hfr51; (try clear hM51))))); refine store_event (t := 41) (p := 86) (v := ?vo_w52) (w1 := ((wr.setCell ⟨go50, (x5_3 : Int).toNat * 2, none⟩ (.string ((rd_T41 l0 x4_1).f0))).setCell ⟨go50, (x5_3 : Int).toNat * 2 + 1, none⟩ (.int .i64 ((rd_T41 l0 x4_1).f1)))) ?hg ?ho ?hn ?hr ?_; (case ho => rfl); (case hg => rfl); (case hn => rfl); (case hr => first | (go_simp; done) | (go_simp; rfl)); intro w52 hw; have hg : wr.grownBy w52 (some go50) := (by rw [hw]; exact HP51.2); have hp_ : Kd.R k41 41 w52 w.heap.size (fun _ => True) (.slice (some ⟨go50, 0, none⟩) x3_3.length co50) y186 := (by rw [hw, Ny186.out]; exact HP51.1); clear HP51; have n0_ := Aside0.mk (hp_); have n1_ := Aside0.mk ((by rw [hw]; exact below_set (below_set (HB.out) GB50.out) GB50.out : Below w.heap.size w w52)); clear HO_3; clear HB; have HO_3 := n0_; have HB := n1_; clear n0_ n1_; clear hg hw hp_))
                                repeat (go_quiet (first | ((with_reducible refine gate_store (t := 41) (p := 86) rfl ?_); (try (rw [drewN_self wr]; generalize hq_ : World.drewN wr _ = wr; have n0_ := Aside0.mk (Kd.R_at hq_ HO_3.out); have n1_ := Aside0.mk (below_at hq_ HB.out); clear hq_ HO_3 HB; have HO_3 := n0_; have HB := n1_; clear n0_ n1_; (try (have HX51 := Aside0.mk (show Kd.R k41 41 wr w.heap.size (fun _ => True) (.slice (some ⟨go50, 0, none⟩) x3_3.length co50) x3_3 from (by (with_reducible repeat (first | apply Kd.R_alloc | apply Kd.R_drewN | apply Kd.R_drew)); exact HO_3.out)))); (try (obtain ⟨ce51, hcl51, hM51, hcc51, hfr51⟩ := Kd.R_elem HX51.out z41 (x5_3 : Int) (of_decide_eq_true (by first | (with_reducible assumption) | assumption)) (by have h_ : (x5_3 : Int) < ((x3_3.length : Int) : Int) := of_decide_eq_true (by first | (with_reducible assumption) | assumption); first | exact h_ | (have e_ := (Kd.R_reads' HO_3.out).1; omega) | simpa using h_))); (try (obtain rfl := k41_openM hM51)); (try (have HP51 := Kd.R_seg HX51.out (x5_3 : Int) (of_decide_eq_true (by first | (with_reducible assumption) | assumption)) (by have h_ : (x5_3 : Int) < ((x3_3.length : Int) : Int) := of_decide_eq_true (by first | (with_reducible assumption) | assumption); first | exact h_ | (have e_ := (Kd.R_reads' HO_3.out).1; omega) | simpa using h_) (seg := [.string ((rd_T41 l0 x4_1).f0), .int .i64 ((rd_T41 l0 x4_1).f1)]) (j := 0) hcl51 hcc51 (show 2 ≤ 2 from by decide) (x' := (⟨(rd_T41 l0 x4_1).f0, (rd_T41 l0 x4_1).f1⟩ : S41)) (k41_mkM _ _ _ (⟨(rd_T41 l0 x4_1).f0, (rd_T41 l0 x4_1).f1⟩ : S41) ) (fun _ hk => hk))); (try (have hx51_0 := hcc51 0 _ rfl)); (try (try simp only [show (k41).sz = 2 from rfl, Nat.mul_one, Nat.add_zero] at hx51_0)); (try (have hf51_0 := hfr51 0)); (try (try simp only [show (k41).sz = 2 from rfl, Nat.mul_one, Nat.add_zero] at hf51_0)); (try (have hx51_1 := hcc51 1 _ rfl)); (try (try simp only [show (k41).sz = 2 from rfl, Nat.mul_one, Nat.add_zero] at hx51_1)); (try (have hf51_1 := hfr51 1)); (try (try simp only [show (k41).sz = 2 from rfl, Nat.mul_one, Nat.add_zero] at hf51_1)); (try (clear hcl51 hcc51 hfr51; (try clear hM51))))); refine store_event (t := 41) (p := 86) (v := ?vo_w52) (w1 := ((wr.setCell ⟨go50, (x5_3 : Int).toNat * 2, none⟩ (.string ((rd_T41 l0 x4_1).f0))).setCell ⟨go50, (x5_3 : Int).toNat * 2 + 1, none⟩ (.int .i64 ((rd_T41 l0 x4_1).f1)))) ?hg ?ho ?hn ?hr ?_; (case ho => rfl); (case hg => rfl); (case hn => rfl); (case hr => first | (go_simp; done) | (go_simp; rfl)); intro w52 hw; have hg : wr.grownBy w52 (some go50) := (by rw [hw]; exact HP51.2); have hp_ : Kd.R k41 41 w52 w.heap.size (fun _ => True) (.slice (some ⟨go50, 0, none⟩) x3_3.length co50) y186 := (by rw [hw, Ny186.out]; exact HP51.1); clear HP51; have n0_ := Aside0.mk (hp_); have n1_ := Aside0.mk ((by rw [hw]; exact below_set (below_set (HB.out) GB50.out) GB50.out : Below w.heap.size w w52)); clear HO_3; clear HB; have HO_3 := n0_; have HB := n1_; clear n0_ n1_; clear hg hw hp_)); try go_wp2_with (first | ((with_reducible refine gate_store (t := 41) (p := 86) rfl ?_); (try (rw [drewN_self wr]; generalize hq_ : World.drewN wr _ = wr; have n0_ := Aside0.mk (Kd.R_at hq_ HO_3.out); have n1_ := Aside0.mk (below_at hq_ HB.out); clear hq_ HO_3 HB; have HO_3 := n0_; have HB := n1_; clear n0_ n1_; (try (have HX51 := Aside0.mk (show Kd.R k41 41 wr w.heap.size (fun _ => True) (.slice (some ⟨go50, 0, none⟩) x3_3.length co50) x3_3 from (by (with_reducible repeat (first | apply Kd.R_alloc | apply Kd.R_drewN | apply Kd.R_drew)); exact HO_3.out)))); (try (obtain ⟨ce51, hcl51, hM51, hcc51, hfr51⟩ := Kd.R_elem HX51.out z41 (x5_3 : Int) (of_decide_eq_true (by first | (with_reducible assumption) | assumption)) (by have h_ : (x5_3 : Int) < ((x3_3.length : Int) : Int) := of_decide_eq_true (by first | (with_reducible assumption) | assumption); first | exact h_ | (have e_ := (Kd.R_reads' HO_3.out).1; omega) | simpa using h_))); (try (obtain rfl := k41_openM hM51)); (try (have HP51 := Kd.R_seg HX51.out (x5_3 : Int) (of_decide_eq_true (by first | (with_reducible assumption) | assumption)) (by have h_ : (x5_3 : Int) < ((x3_3.length : Int) : Int) := of_decide_eq_true (by first | (with_reducible assumption) | assumption); first | exact h_ | (have e_ := (Kd.R_reads' HO_3.out).1; omega) | simpa using h_) (seg := [.string ((rd_T41 l0 x4_1).f0), .int .i64 ((rd_T41 l0 x4_1).f1)]) (j := 0) hcl51 hcc51 (show 2 ≤ 2 from by decide) (x' := (⟨(rd_T41 l0 x4_1).f0, (rd_T41 l0 x4_1).f1⟩ : S41)) (k41_mkM _ _ _ (⟨(rd_T41 l0 x4_1).f0, (rd_T41 l0 x4_1).f1⟩ : S41) ) (fun _ hk => hk))); (try (have hx51_0 := hcc51 0 _ rfl)); (try (try simp only [show (k41).sz = 2 from rfl, Nat.mul_one, Nat.add_zero] at hx51_0)); (try (have hf51_0 := hfr51 0)); (try (try simp only [show (k41).sz = 2 from rfl, Nat.mul_one, Nat.add_zero] at hf51_0)); (try (have hx51_1 := hcc51 1 _ rfl)); (try (try simp only [show (k41).sz = 2 from rfl, Nat.mul_one, Nat.add_zero] at hx51_1)); (try (have hf51_1 := hfr51 1)); (try (try simp only [show (k41).sz = 2 from rfl, Nat.mul_one, Nat.add_zero] at hf51_1)); (try (clear hcl51 hcc51 hfr51; (try clear hM51))))); refine store_event (t := 41) (p := 86) (v := ?vo_w52) (w1 := ((wr.setCell ⟨go50, (x5_3 : Int).toNat * 2, none⟩ (.string ((rd_T41 l0 x4_1).f0))).setCell ⟨go50, (x5_3 : Int).toNat * 2 + 1, none⟩ (.int .i64 ((rd_T41 l0 x4_1).f1)))) ?hg ?ho ?hn ?hr ?_; (case ho => rfl); (case hg => rfl); (case hn => rfl); (case hr => first | (go_simp; done) | (go_simp; rfl)); intro w52 hw; have hg : wr.grownBy w52 (some go50) := (by rw [hw]; exact HP51.2); have hp_ : Kd.R k41 41 w52 w.heap.size (fun _ => True) (.slice (some ⟨go50, 0, none⟩) x3_3.length co50) y186 := (by rw [hw, Ny186.out]; exact HP51.1); clear HP51; have n0_ := Aside0.mk (hp_); have n1_ := Aside0.mk ((by rw [hw]; exact below_set (below_set (HB.out) GB50.out) GB50.out : Below w.heap.size w w52)); clear HO_3; clear HB; have HO_3 := n0_; have HB := n1_; clear n0_ n1_; clear hg hw hp_)))
                                go_roundg k3
                                case measure => have := HK1.out; have := HJ3.out; have := HK3.out; omega
                                case rel => exact ⟨(y186), (wrap64 (x4_1 + 1)), (by first | rfl | (simp; done) | (simp [*]; done)), H', ⟨by have := HK1.out; have := HJ3.out; have := HK3.out; omega⟩, ⟨by (with_reducible repeat (first | apply Kd.R_alloc | apply Kd.R_drewN | apply Kd.R_drew)); exact HO_3.out⟩, ⟨by repeat (first | (with_reducible first | exact HB.out | apply below_alloc | apply pw_below_drewN | apply below_drew1) | exact HB.out)⟩⟩
                              · rw [if_neg c49] at H
                                exact absurd H (by simp)
                            · rw [if_neg c48] at H
                              exact absurd H (by simp)
                          · rw [if_neg c47] at H
                            exact absurd H (by simp)
                        · rw [if_neg c46] at H
                          exact absurd H (by simp)
                · rw [if_neg c10] at H
                  exact absurd H (by simp)
              · rw [if_neg c9] at H
                exact absurd H (by simp)
            · rw [if_neg c8] at H
              exact absurd H (by simp)
          · replace c7 := Bool.eq_false_iff.mpr c7
            subst c7
            have H1 : (some x3_1) = some r := by rw [if_neg (show ¬ (false = true) by decide)] at H; exact H
            clear H
            have H := H1
            clear H1
            obtain rfl := Option.some.inj H
            go_wp2
            repeat (go_quiet (fail); try go_wp2)
            go_ret
            exact ⟨_, by first | rfl | (simp [errW_none, errW_some] <;> rfl) | (simp [*, errW_none, errW_some] <;> rfl), by (with_reducible repeat (first | apply Kd.R_alloc | apply Kd.R_drewN | apply Kd.R_drew)); exact HO_3.out, by repeat (first | (with_reducible first | exact HB.out | apply below_alloc | apply pw_below_drewN | apply below_drew1) | exact HB.out)⟩

end Go.Proofs.Ytjabgjlkemfofaa.Q
