/- The functions that the seat's statements reach, as plain Lean functions, and that the program's calls answer what they say; no condition beyond the values read. Written by a program of this session's over the kit's print. -/
import Derived.Lib.SliceRun
import Derived.Test.YtjabgjlkemfofaaDoorQx0
import Derived.Test.YtjabgjlkemfofaaDoorQx1
import Derived.Test.YtjabgjlkemfofaaDoorQx2
import Derived.Test.YtjabgjlkemfofaaDoorQx16
import Derived.Test.YtjabgjlkemfofaaDoorQx17
namespace Go.Proofs.YtjabgjlkemfofaaDoor.Q
open Go.RowKit Go.Proofs.YtjabgjlkemfofaaDoorW.PrintWords Go.Proofs.YtjabgjlkemfofaaDoorW.PrintLast Go.Proofs.YtjabgjlkemfofaaDoorW.PrintMore
attribute [local go_sem] max2_int min2_int max_two min_two max_three min_three max_four min_four   -- for this text's walks alone
set_option linter.unusedVariables false
set_option linter.unusedSimpArgs false

/-! ### impl_LabelText: function 18 -/
def impl_LabelText.f (k : Nat) (l0 : List (S26)) : Option (ByteArray) := (impl_SortedParts.f k l0).bind fun t216 => ((impl_namesOf.f k t216).bind fun t219 => ((strings_Join.f t219 (⟨#[44, 32]⟩ : ByteArray)).bind fun t222 => (some t222)))
theorem impl_LabelText.mono : ∀ a0 k, LeO (impl_LabelText.f k a0) (impl_LabelText.f (k + 1) a0) := by
  intro a0 k
  unfold impl_LabelText.f
  repeat' first
      | (with_reducible exact impl_SortedParts.mono _ _)
      | (with_reducible exact impl_namesOf.mono _ _)
      | (with_reducible exact LeO.refl _)
      | (with_reducible exact LeO.none _)
      | (with_reducible refine LeO.ite ?_ ?_)
      | (with_reducible refine LeO.bind ?_ (fun _ => ?_))
      | exact impl_SortedParts.mono _ _
      | exact impl_namesOf.mono _ _
      | exact LeO.none _
      | refine LeO.ite ?_ ?_
      | refine LeO.bind ?_ (fun _ => ?_)
set_option maxHeartbeats 8000000 in
set_option maxRecDepth 100000 in
theorem impl_LabelText.calls (k : Nat) (A0 : Option Addr) (c0 : Nat) (l0 : List (S26)) (r : ByteArray) (w : World) (hr0 : Kd.C k26 w A0 l0.length l0) (hc0 : l0.length ≤ c0) (h : impl_LabelText.f k l0 = some r) :
    Calls Tryd.prog 18 #[.slice A0 l0.length c0] w fun e w' => e = .returned (.string r) ∧ Below w.heap.size w w' := by
  have HR0 := Aside0.mk hr0
  have HC0 := Aside0.mk hc0
  clear hr0 hc0
  have HB := Aside0.mk (Below.refl w.heap.size w)
  have H : ((impl_SortedParts.f k l0).bind fun t216 => ((impl_namesOf.f k t216).bind fun t219 => ((strings_Join.f t219 (⟨#[44, 32]⟩ : ByteArray)).bind fun t222 => (some t222)))) = some r := h
  clear h
  replace H := Option.bind_eq_some_iff.mp H
  obtain ⟨t216, A20, H⟩ := H
  replace H : ((impl_namesOf.f k t216).bind fun t219 => ((strings_Join.f t219 (⟨#[44, 32]⟩ : ByteArray)).bind fun t222 => (some t222))) = some r := H
  have A2 := Aside0.mk A20
  clear A20
  replace H := Option.bind_eq_some_iff.mp H
  obtain ⟨t219, A30, H⟩ := H
  replace H : ((strings_Join.f t219 (⟨#[44, 32]⟩ : ByteArray)).bind fun t222 => (some t222)) = some r := H
  have A3 := Aside0.mk A30
  clear A30
  replace H := Option.bind_eq_some_iff.mp H
  obtain ⟨t222, A40, H⟩ := H
  replace H : (some t222) = some r := H
  have A4 := Aside0.mk A40
  clear A40
  obtain rfl := Option.some.inj H
  go_enter Tryd.func18, Tryd.ntmps18
  go_wp2_with (first | ((with_reducible refine gate_callee (f := 17) rfl ?_); refine goesL_ (some 4) rfl rfl Tryd.func17 (by kernel_rfl) rfl #[.slice A0 l0.length c0] rfl (by (try simp only [List.map_toArray, List.map_cons, List.map_nil]); first | done | rfl | (simp only [List.length_drop, List.length_take]; rfl)) ?_; (with_reducible refine (impl_SortedParts.calls k _ _ l0 t216 _ ?side1 ?side2 A2.out).mono ?_); (case side1 => repeat (first | exact HR0.out | (with_reducible refine Kd.C_alloc ?_ _) | (with_reducible refine Kd.C_drewN ?_ _) | (with_reducible refine Kd.C_drew ?_))); (case side2 => exact HC0.out); rintro e w5 ⟨v217, rfl, ho0, hb⟩; refine ⟨_, rfl, ?_⟩; have n0_ := Aside0.mk (Kd.R_lower ho0 (below_size (by repeat (first | (with_reducible first | exact HB.out | apply below_alloc | apply pw_below_drewN | apply below_drew1) | exact HB.out)))); have n1_ := Aside0.mk (below_step (by repeat (first | (with_reducible first | exact HB.out | apply below_alloc | apply pw_below_drewN | apply below_drew1) | exact HB.out)) hb); clear HB; have HO218 := n0_; have HB := n1_; clear n0_ n1_; (try clear hb); (try clear hb2); (try clear hk); (try clear hi); (try clear ho0); obtain ⟨Ao6, co6, eo6⟩ := Kd.R_slice HO218.out; subst eo6) | ((with_reducible refine gate_callee (f := 39) rfl ?_); refine goesL_ (some 5) rfl rfl Tryd.func39 (by kernel_rfl) rfl #[.slice Ao6 t216.length co6] rfl (by (try simp only [List.map_toArray, List.map_cons, List.map_nil]); first | done | rfl | (simp only [List.length_drop, List.length_take]; rfl)) ?_; (with_reducible refine (impl_namesOf.calls k _ _ t216 t219 _ ?side1 ?side2 A3.out).mono ?_); (case side1 => repeat (first | exact (Kd.R_reads' HO218.out).2.2 | (with_reducible refine Kd.C_alloc ?_ _) | (with_reducible refine Kd.C_drewN ?_ _) | (with_reducible refine Kd.C_drew ?_))); (case side2 => exact (Kd.R_reads' HO218.out).2.1); rintro e w7 ⟨v220, rfl, ho0, hb⟩; refine ⟨_, rfl, ?_⟩; have n0_ := Aside0.mk (Kd.R_below (by (with_reducible repeat (first | apply Kd.R_alloc | apply Kd.R_drewN | apply Kd.R_drew)); exact HO218.out) hb); have n1_ := Aside0.mk (Kd.R_lower ho0 (below_size (by repeat (first | (with_reducible first | exact HB.out | apply below_alloc | apply pw_below_drewN | apply below_drew1) | exact HB.out)))); have n2_ := Aside0.mk (below_step (by repeat (first | (with_reducible first | exact HB.out | apply below_alloc | apply pw_below_drewN | apply below_drew1) | exact HB.out)) hb); clear HO218; clear HB; have HO218 := n0_; have HO221 := n1_; have HB := n2_; clear n0_ n1_ n2_; (try clear hb); (try clear hb2); (try clear hk); (try clear hi); (try clear ho0); obtain ⟨Ao8, co8, eo8⟩ := Kd.R_slice HO221.out; subst eo8) | ((with_reducible refine gate_callee (f := 38) rfl ?_); refine goesL_ (some 6) rfl rfl Tryd.func38 (by kernel_rfl) rfl #[.slice Ao8 t219.length co8, .string (⟨#[44, 32]⟩ : ByteArray)] rfl (by (try simp only [List.map_toArray, List.map_cons, List.map_nil]); first | done | rfl | (simp only [List.length_drop, List.length_take]; rfl)) ?_; (with_reducible refine (strings_Join.calls _ _ t219 (⟨#[44, 32]⟩ : ByteArray) t222 _ ?side1 ?side2 A4.out).mono ?_); (case side1 => repeat (first | exact (Kd.R_reads' HO221.out).2.2 | (with_reducible refine Kd.C_alloc ?_ _) | (with_reducible refine Kd.C_drewN ?_ _) | (with_reducible refine Kd.C_drew ?_))); (case side2 => exact (Kd.R_reads' HO221.out).2.1); rintro e w9 ⟨rfl, hb⟩; refine ⟨_, rfl, ?_⟩; have n0_ := Aside0.mk (Kd.R_below (by (with_reducible repeat (first | apply Kd.R_alloc | apply Kd.R_drewN | apply Kd.R_drew)); exact HO218.out) hb); have n1_ := Aside0.mk (Kd.R_below (by (with_reducible repeat (first | apply Kd.R_alloc | apply Kd.R_drewN | apply Kd.R_drew)); exact HO221.out) hb); have n2_ := Aside0.mk (below_step (by repeat (first | (with_reducible first | exact HB.out | apply below_alloc | apply pw_below_drewN | apply below_drew1) | exact HB.out)) hb); clear HO218; clear HO221; clear HB; have HO218 := n0_; have HO221 := n1_; have HB := n2_; clear n0_ n1_ n2_; (try clear hb); (try clear hb2); (try clear hk); (try clear hi)))
  go_ret
  exact ⟨by first | rfl | (simp [errW_none, errW_some] <;> rfl) | (simp [*, errW_none, errW_some] <;> rfl), by repeat (first | (with_reducible first | exact HB.out | apply below_alloc | apply pw_below_drewN | apply below_drew1) | exact HB.out)⟩

/-! ### laws_at: function 19 -/
def laws_at.f (l0 : List Int) (a1 : Int) : Option (Int) := if (l0.length : Int) = 0 then (some 0) else (if 0 ≤ (Int.tmod (wrap64 ((wrap64 (a1 * 5)) + 1)) (l0.length : Int)) then (if (Int.tmod (wrap64 ((wrap64 (a1 * 5)) + 1)) (l0.length : Int)) < (l0.length : Int) then (some (wrap64 (rd l0 (Int.tmod (wrap64 ((wrap64 (a1 * 5)) + 1)) (l0.length : Int))))) else (none)) else (none))
set_option maxHeartbeats 8000000 in
set_option maxRecDepth 100000 in
theorem laws_at.calls (A0 : Option Addr) (c0 : Nat) (l0 : List Int) (a1 : Int) (r : Int) (w : World) (hr0 : Kd.C (Kd.int .u8) w A0 l0.length l0) (hc0 : l0.length ≤ c0) (h : laws_at.f l0 a1 = some r) :
    Calls Tryd.prog 19 #[.slice A0 l0.length c0, .int .i64 a1] w fun e w' => e = .returned (.int .i64 r) ∧ Drawn0 w w' := by
  have HR0 := Aside0.mk hr0
  have HC0 := Aside0.mk hc0
  clear hr0 hc0
  have H : (if (l0.length : Int) = 0 then (some 0) else (if 0 ≤ (Int.tmod (wrap64 ((wrap64 (a1 * 5)) + 1)) (l0.length : Int)) then (if (Int.tmod (wrap64 ((wrap64 (a1 * 5)) + 1)) (l0.length : Int)) < (l0.length : Int) then (some (wrap64 (rd l0 (Int.tmod (wrap64 ((wrap64 (a1 * 5)) + 1)) (l0.length : Int))))) else (none)) else (none))) = some r := h
  clear h
  by_cases c3 : (l0.length : Int) = 0
  · rw [if_pos c3] at H
    have c3b0 : ((l0.length : Int) == 0) = true := beq_iff_eq.mpr c3
    have c3b1 : ((l0.length : Int) != 0) = false := bne_eq_false_iff_eq.mpr c3
    clear c3
    obtain rfl := Option.some.inj H
    go_enter Tryd.func19, Tryd.ntmps19
    go_wp2
    go_ret
    exact ⟨by first | rfl | (simp; done) | (simp [*]; done), by repeat (first | exact Drawn0.refl _ | apply Drawn0.step)⟩
  · rw [if_neg c3] at H
    have c3b0 : ((l0.length : Int) == 0) = false := beq_eq_false_iff_ne.mpr c3
    have c3b1 : ((l0.length : Int) != 0) = true := bne_iff_ne.mpr c3
    have c3b2 : ¬ (l0 = []) := fun h_ => c3 (by rw [h_]; rfl)
    obtain ⟨ji4, hji4⟩ : ∃ j_ : Int, (Int.tmod (wrap64 ((wrap64 (a1 * 5)) + 1)) (l0.length : Int)) = j_ := ⟨_, rfl⟩
    replace H : (if 0 ≤ (ji4) then (if (ji4) < (l0.length : Int) then (some (wrap64 (rd l0 (ji4)))) else (none)) else (none)) = some r := by first | (rw [hji4] at H; exact H) | (simp only [hji4] at H ⊢; exact H)
    by_cases c5 : 0 ≤ (ji4)
    · rw [if_pos c5] at H
      have c5b0 : decide (0 ≤ (ji4)) = true := decide_eq_true c5
      clear c5
      by_cases c6 : (ji4) < (l0.length : Int)
      · rw [if_pos c6] at H
        have c6b0 : decide ((ji4) < (l0.length : Int)) = true := decide_eq_true c6
        clear c6
        obtain rfl := Option.some.inj H
        have p223 : 0 ≤ ((ji4) : Int) := of_decide_eq_true (by first | (with_reducible assumption) | assumption)
        have q223 : (ji4) < (l0.length : Int) := of_decide_eq_true (by first | (with_reducible assumption) | assumption)
        obtain ⟨ad223, e223, hx223_0⟩ := Kd.at_int HR0.out (ji4) p223 q223
        cases e223
        replace p223 := eq_true p223
        replace q223 := eq_true q223
        go_enter Tryd.func19, Tryd.ntmps19
        go_wp2
        go_ret
        exact ⟨by first | rfl | (simp; done) | (simp only [← hji4] <;> (first | rfl | simp)) | (simp [*]; done), by repeat (first | exact Drawn0.refl _ | apply Drawn0.step)⟩
      · rw [if_neg c6] at H
        exact absurd H (by simp)
    · rw [if_neg c5] at H
      exact absurd H (by simp)

-- NOT PRINTED: function 41 (impl_MustName_1)

/-! ### impl_Part_40: function 40, at impl.MustName's closure -/
/-- What the closure answers, its two captured numbers handed over as a pair. -/
def mustQ (a : Int × Int) (x : S26) : Bool := decide (wrap64 (x.f1 * 100) < wrap64 (a.1 * a.2))
set_option maxHeartbeats 8000000 in
set_option maxRecDepth 100000 in
theorem mustQ_lit (x : S26) (a1 a2 : Int) (g1 g2 : Nat) (w : World) (h1 : w.cell? ⟨g1, 0, none⟩ = some (.int .i64 a1)) (h2 : w.cell? ⟨g2, 0, none⟩ = some (.int .i64 a2)) :
    Calls Tryd.prog 41 #[.agg #[.string x.f0, .int .i64 x.f1], .pointer (some ⟨g1, 0, none⟩), .pointer (some ⟨g2, 0, none⟩)] w fun e w' => e = .returned (.bool (mustQ (a1, a2) x)) ∧ Below w.heap.size w w' := by
  have hu26 := Tryd.underlying26
  have l1 := World.block_lt_of_cell? w _ h1
  have l2 := World.block_lt_of_cell? w _ h2
  dsimp only at l1 l2
  have h1' := Lib.cell?_alloc_some (.cells #[.string x.f0, .int .i64 x.f1] 26 (0, 0)) h1
  have h2' := Lib.cell?_alloc_some (.cells #[.string x.f0, .int .i64 x.f1] 26 (0, 0)) h2
  go_enter Tryd.func41, Tryd.ntmps41
  go_wp2
  go_ret
  refine ⟨?_, by repeat (first | exact Below.refl _ _ | apply below_alloc | apply pw_below_drewN | apply below_drew1)⟩
  unfold mustQ
  first | rfl | (simp; done)
theorem clearR {w : World} {base : Nat} {ok : Nat → Prop} {g i cap o : Nat} {xs : List S26} {cur : Array Value} (h : Kd.R k26 26 w base ok (.slice (some ⟨g, 0, none⟩) i cap) xs) (vs : List Value) (ho : i * 2 ≤ o) (hl : o + vs.length ≤ cap * 2) : Kd.R k26 26 (w.setCells g o vs) base ok (.slice (some ⟨g, 0, none⟩) i cap) xs := by
  obtain ⟨hok, inner, ⟨hil, hown⟩, hrep⟩ := h
  rcases hown with ⟨hv, _⟩ | ⟨g', cap', cur, hv, hbg, hh, hnc, hcm, hcs, htk⟩
  · cases hv
  · have hi : i = xs.length := by injection hv
    cases hv
    have hs2 : (k26).sz = 2 := rfl
    obtain ⟨cur', h3, h4, h5⟩ := setCells_row vs o w cur hh (by rw [hcs, hs2]; exact hl)
    refine ⟨hok, inner, ⟨hil, .inr ⟨g, cap, cur', rfl, hbg, h3, hnc, hcm, by rw [h4]; exact hcs, ?_⟩⟩, hrep.imp_ (fun p c hp => ?_)⟩
    · have hcl : cur.toList.length = cap * 2 := by rw [Array.length_toList, hcs, hs2]
      have hle : xs.length * 2 ≤ min o (cap * 2) := by omega
      rw [h5, ← htk, List.append_assoc, hs2, List.take_append_of_le_length (by rw [List.length_take, hcl]; exact hle), List.take_take]
      congr 1
      exact Nat.min_eq_left ho
    · obtain rfl := k26_openM hp
      exact k26_mkM _ _ _ p
theorem grown_cells (w : World) (g o : Nat) (vs : List Value) : w.grownBy (w.setCells g o vs) (some g) := by
  obtain ⟨h1, h2, h3, h4⟩ := setCells_same g vs o w
  exact ⟨h1, h2, h3, by rw [h4]; exact Nat.le_refl _, fun k _ hne => setCells_far vs o k (fun e => hne (by rw [e]))⟩
def zerosP (m : Nat) : List Value := (Builtin.zeroCells (Value.agg #[(.string ⟨#[]⟩), (.int .i64 0)]).cells m).toList
theorem zerosP_length (m : Nat) : (zerosP m).length = m * 2 := by
  simp [zerosP, Builtin.zeroCells, Value.cells]
theorem zerosP_one (m : Nat) : ∀ v ∈ zerosP m, v.oneCell' = true := by
  intro v hv
  simp only [zerosP, Builtin.zeroCells, Value.cells] at hv
  obtain ⟨j, hj, rfl⟩ := List.mem_iff_getElem.1 hv
  have : j % 2 = 0 ∨ j % 2 = 1 := by omega
  rcases this with e | e <;> simp [e, Value.oneCell']
theorem clear_run (W : World) (g i m c : Nat) (cur : Array Value) (hh : W.heap[g]? = some (.cells cur 26 (0, 0))) (hl : i * 2 + m * 2 ≤ cur.size) (hm : 0 < m) (ty : TypeId) :
    (Builtin.clear_ #[37] ty #[.slice (some ⟨g, i * 2, none⟩) m c]).run Tryd.prog W = .ok (.tuple #[]) (W.setCells g (i * 2) (zerosP m)) := by
  have hst := run_storeCells_cells (P := Tryd.prog) g (i * 2) (zerosP m) 0 W (fun j hj => by
    rw [zerosP_length] at hj
    have : i * 2 + j < cur.size := by omega
    simp [World.cell?, hh, this]) (fun j hj => by simp [World.frozen?, hh]) (zerosP_one m)
  simp only [Nat.add_zero] at hst
  obtain ⟨m, rfl⟩ : ∃ k, m = k + 1 := ⟨m - 1, by omega⟩
  have hz : (Builtin.zeroCells (Value.agg #[(.string ⟨#[]⟩), (.int .i64 0)]).cells (m + 1)).toList = zerosP (m + 1) := rfl
  simp only [Builtin.clear_]
  simp [run_underlying Tryd.underlying37, Tryd.zeroValue26, hz, hst]
def impl_Part_40.f (l0 : List S26) (a1 : Int × Int) : Option (List S26) := if idxR (fun j => mustQ a1 (l0.getD j z26)) l0.length = -1 then (some l0) else (if (l0.drop ((idxR (fun j => mustQ a1 (l0.getD j z26)) l0.length).toNat + 1)).all (mustQ a1) = true then (some (l0.take (idxR (fun j => mustQ a1 (l0.getD j z26)) l0.length).toNat)) else (none))
theorem idxR_lt (q : Nat → Bool) (n : Nat) (h : idxR q n ≠ -1) : ∃ i : Nat, i < n ∧ idxR q n = (i : Int) := by
  unfold idxR at h ⊢
  by_cases c : (List.range n).any q = true
  · rw [if_pos c]
    refine ⟨_, ?_, rfl⟩
    obtain ⟨x, hx, hq⟩ := List.any_eq_true.1 c
    have := List.findIdx_lt_length_of_exists (p := q) ⟨x, hx, hq⟩
    simpa using this
  · rw [if_neg c] at h
    exact absurd rfl h
set_option maxHeartbeats 8000000 in
set_option maxRecDepth 100000 in
theorem impl_Part_40.callsB {g1 g2 : Nat} (u_ : Value) (l0 : List S26) (a1 : Int × Int) (r : List S26) (base : Nat) (ok : Nat → Prop) (w : World) (h1 : w.cell? ⟨g1, 0, none⟩ = some (.int .i64 a1.1)) (h2 : w.cell? ⟨g2, 0, none⟩ = some (.int .i64 a1.2)) (ho : Kd.R k26 26 w base ok u_ l0) (h : impl_Part_40.f l0 a1 = some r) :
    Calls Tryd.prog 40 #[u_, .func (.func 41) #[] #[.pointer (some ⟨g1, 0, none⟩), .pointer (some ⟨g2, 0, none⟩)]] w fun e w' => ∃ v0_ : Value, e = .returned v0_ ∧ Kd.R k26 26 w' base ok v0_ r ∧ w.grownBy w' u_.ownBlock := by
  have HQ := Aside0.mk (show ∀ (W : World) (x : S26), Below w.heap.size w W → Calls Tryd.prog 41 #[.agg #[.string x.f0, .int .i64 x.f1], .pointer (some ⟨g1, 0, none⟩), .pointer (some ⟨g2, 0, none⟩)] W fun e w' => e = .returned (.bool (mustQ a1 x)) ∧ Below W.heap.size W w' from fun W x hb => mustQ_lit x a1.1 a1.2 g1 g2 W ((hb.cell (World.block_lt_of_cell? w _ h1)).trans h1) ((hb.cell (World.block_lt_of_cell? w _ h2)).trans h2))
  clear h1 h2
  obtain ⟨A, c, rfl⟩ := Kd.R_slice ho
  obtain ⟨_, hlc, hC⟩ := Kd.R_reads' ho
  have hlen : l0.length ≤ 9223372036854775807 := hC.2.1
  have hI := impl_Part_56.gen 41 #[.pointer (some ⟨g1, 0, none⟩), .pointer (some ⟨g2, 0, none⟩)] (enters_by Tryd.func41 (by kernel_rfl) rfl) (fun j => mustQ a1 (l0.getD j z26)) A c l0 w hC hlc (fun W x p q hb => by
    have e : rd_T26 l0 x = l0.getD x.toNat z26 := rfl
    rw [← e]
    exact (HQ.out W (rd_T26 l0 x) hb).mono fun e w' ⟨he, hd⟩ => ⟨he, hb.trans (hd.mono hb.size)⟩)
  have HI := Aside0.mk hI
  clear hI
  unfold impl_Part_40.f at h
  by_cases c1 : idxR (fun j => mustQ a1 (l0.getD j z26)) l0.length = -1
  · rw [if_pos c1] at h
    obtain rfl := Option.some.inj h
    have HO := Aside0.mk ho
    rw [c1] at HI
    clear ho hlc hC h c1 HQ
    go_enter Tryd.func40, Tryd.ntmps40
    go_wp2_with (go_at_call 56; refine HI.out.mono ?_; rintro e w1 ⟨rfl, hb⟩; have HB := Aside0.mk hb; clear hb)
    go_ret
    exact ⟨_, rfl, Kd.R_below HO.out HB.out, grown_of_below HB.out _⟩
  · rw [if_neg c1] at h
    obtain ⟨i, hil, e1⟩ := idxR_lt _ _ c1
    rw [e1] at h HI
    rw [Int.toNat_natCast] at h
    by_cases c2 : (l0.drop (i + 1)).all (mustQ a1) = true
    · rw [if_pos c2] at h
      obtain rfl := Option.some.inj h
      obtain ⟨g, cap, e2, hbg, hgl, cells, hcells⟩ := Kd.R_form ho (by omega)
      cases e2
      have HO := Aside0.mk ho
      have HC2 := Aside0.mk c2
      have HIL := Aside0.mk hil
      have HLC := Aside0.mk hlc
      have HCELL := Aside0.mk hC
      have hne1 : ((i : Int) == -1) = false := beq_eq_false_iff_ne.2 (by omega)
      have hwi : wrap64 ((i : Int) + 1) = (i : Int) + 1 := by unfold wrap64; omega
      have HWI := Aside0.mk hwi
      have HLEN := Aside0.mk hlen
      clear ho hlc hC h c1 c2 e1 hcells hwi hlen
      have hi0 : (0 : Int) ≤ (i : Int) := by omega
      have hi1 : (i : Int) + 1 ≤ (l0.length : Int) := by omega
      clear hil
      go_enter Tryd.func40, Tryd.ntmps40
      go_wp2_with (go_at_call 56; refine HI.out.mono ?_; rintro e w1 ⟨rfl, hb⟩; have HB := Aside0.mk hb; clear hb)
      go_loopg [5, 6] l0.length (fun gg s5 s6 wr => ∃ j : Nat, s5 = .int .i64 (i : Int) ∧ s6 = .int .i64 (j : Int) ∧ Aside0 (i + 1 ≤ j ∧ j ≤ l0.length ∧ l0.length - j ≤ gg) ∧ Aside0 (Below w.heap.size w wr))
      case atStart => exact ⟨i + 1, rfl, by first | rfl | (rw [HWI.out]; rfl) | simp [HWI.out], ⟨by omega, by have := HIL.out; omega, by omega⟩, HB⟩
      case round =>
        clear HI HB
        obtain ⟨j, rfl, rfl, HJ, HB⟩ := hrel
        by_cases hlt : (j : Int) < (l0.length : Int)
        · have p : (0 : Int) ≤ (j : Int) := by omega
          obtain ⟨ad, e0, hx0, hx1⟩ := at_T26 HCELL.out (j : Int) p hlt
          cases e0
          rw [add_plain, Int.toNat_natCast] at hx0 hx1
          replace hx0 := (HB.out.cell (World.block_lt_of_cell? w _ hx0)).trans hx0
          replace hx1 := (HB.out.cell (World.block_lt_of_cell? w _ hx1)).trans hx1
          have hq : mustQ a1 (rd_T26 l0 (j : Int)) = true := by
            have h3 := List.all_eq_true.1 HC2.out (rd_T26 l0 (j : Int)) (by
              have h4 := HJ.out.1
              have h5 : j < l0.length := by omega
              rw [List.mem_iff_getElem]
              refine ⟨j - (i + 1), by rw [List.length_drop]; omega, ?_⟩
              rw [List.getElem_drop]
              simp only [rd_T26, Int.toNat_natCast, List.getD_eq_getElem?_getD, List.getElem?_eq_getElem h5, Option.getD_some]
              congr 1
              omega)
            exact h3
          have HQT := Aside0.mk (fun W hb => (HQ.out W (rd_T26 l0 (j : Int)) hb))
          rw [hq] at HQT
          clear hq
          have hlt0 : decide ((j : Int) < (l0.length : Int)) = true := decide_eq_true hlt
          have p0 := eq_true p
          have q0 := eq_true hlt
          clear hlt p
          go_wp2_with fail
          refine (HQT.out _ (by repeat (first | exact HB.out | apply below_alloc | apply pw_below_drewN | apply below_drew1))).mono ?_
          rintro e w2 ⟨rfl, hb⟩
          have n1_ := Aside0.mk (below_step (show Below w.heap.size w (wr.alloc _) from below_alloc HB.out _) hb)
          clear HB hb hx0 hx1
          have HB := n1_
          clear n1_
          have hwj : wrap64 ((j : Int) + 1) = (j : Int) + 1 := by have := HLEN.out; have := of_eq_true q0; unfold wrap64; omega
          have HWJ := Aside0.mk hwj
          clear hwj
          go_wp2
          go_roundg (l0.length - (j + 1))
          case measure => have := HJ.out; have := of_eq_true q0; omega
          case rel =>
            have := HJ.out
            have := of_eq_true q0
            exact ⟨j + 1, rfl, by first | rfl | (rw [HWJ.out]; rfl) | simp [HWJ.out], ⟨by omega, by omega, by omega⟩, HB⟩
        · have hj2 : j = l0.length := by have := HJ.out; omega
          subst hj2
          have hO2 := Kd.R_below HO.out HB.out
          obtain ⟨g', cap', e3, _, _, cur, hcur⟩ := Kd.R_form hO2 (by have := HIL.out; omega)
          cases e3
          have hsz : cur.size = c * 2 := by
            obtain ⟨_, inner, ⟨_, hown⟩, _⟩ := hO2
            rcases hown with ⟨hv, _⟩ | ⟨g', cap', cur2, hv, _, hh, _, _, hcs, _⟩
            · cases hv
            · cases hv
              rw [hh] at hcur
              cases hcur
              exact hcs
          have hcl := clear_run wr g i (l0.length - i) (c - i) cur hcur (by have := HIL.out; have := HLC.out; rw [hsz]; omega) (by have := HIL.out; omega)
          have hRT := clearR (o := i * 2) (cur := cur) (Kd.R_take hO2 (Nat.le_of_lt HIL.out)) (zerosP (l0.length - i)) (Nat.le_refl _) (by rw [zerosP_length]; have := HIL.out; have := HLC.out; omega)
          have HRT := Aside0.mk hRT
          have HG := Aside0.mk ((grown_cells wr g (i * 2) (zerosP (l0.length - i))))
          have hci : (c = i) = False := eq_false (by have := HIL.out; have := HLC.out; omega)
          have hic : (i : Int) ≤ (c : Int) := by have := HIL.out; have := HLC.out; omega
          have hil : (i : Int) ≤ (l0.length : Int) := by have := HIL.out; omega
          clear hO2 hcur hsz hRT
          go_wp2
          go_ret
          exact ⟨_, rfl, HRT.out, ⟨HG.out.os.trans HB.out.os, HG.out.tape.trans HB.out.tape, HG.out.output.trans HB.out.output, Nat.le_trans HB.out.size HG.out.size, fun k hk hne => (HG.out.block k (Nat.lt_of_lt_of_le hk HB.out.size) hne).trans (HB.out.block k hk)⟩⟩
    · rw [if_neg c2] at h
      exact absurd h (by simp)

/-! ### impl_MustName: function 20 -/
mutual
def impl_MustName.j0 : Nat → List (S26) → Bool → Int → Option (List ByteArray)
  | 0, _, _, _ => none
  | k + 1, x0, x15, x226000 => if x15 = true then (some ([] : List ByteArray)) else (impl_MustName.l0 k x0 x0 (x0.length : Int) 0 x226000 0)
def impl_MustName.l0 : Nat → List (S26) → List (S26) → Int → Int → Int → Int → Option (List ByteArray)
  | 0, _, _, _, _, _, _ => none
  | k + 1, x0, x16, x17, x18, x226000, x229000 => if x18 < x17 then (if 0 ≤ x18 then (if x18 < (x16.length : Int) then (impl_MustName.l0 k x0 x16 x17 (wrap64 (x18 + 1)) x226000 (wrap64 (x229000 + ((rd_T26 x16 x18).f1)))) else (none)) else (none)) else ((impl_SortedParts.f k x0).bind fun t231 => ((impl_Part_40.f t231 (x226000, x229000)).bind fun t234 => ((impl_namesOf.f k t234).bind fun t237 => (some t237))))
end
def impl_MustName.f (k : Nat) (l0 : List (S26)) (a1 : Int) : Option (List ByteArray) := (impl_PartsOk.f k l0).bind fun t226 => (if t226 = true then ((impl_in.f a1 0 100).bind fun t227 => (impl_MustName.j0 k l0 (!t227) a1)) else (impl_MustName.j0 k l0 true a1))
theorem impl_MustName.mono_l : ∀ k, (∀ y0 y1 y2, LeO (impl_MustName.j0 k y0 y1 y2) (impl_MustName.j0 (k + 1) y0 y1 y2)) ∧ (∀ y0 y1 y2 y3 y4 y5, LeO (impl_MustName.l0 k y0 y1 y2 y3 y4 y5) (impl_MustName.l0 (k + 1) y0 y1 y2 y3 y4 y5))
  | 0 => ⟨fun _ _ _ r h => by simp [impl_MustName.j0] at h, fun _ _ _ _ _ _ r h => by simp [impl_MustName.l0] at h⟩
  | k + 1 => by
    obtain ⟨ih0, ih1⟩ := impl_MustName.mono_l k
    refine ⟨?_, ?_⟩
    · intro y0 y1 y2
      unfold impl_MustName.j0
      repeat' first
      | (with_reducible exact ih0 _ _ _)
      | (with_reducible exact ih1 _ _ _ _ _ _)
      | (with_reducible exact impl_PartsOk.mono _ _)
      | (with_reducible exact impl_SortedParts.mono _ _)
      | (with_reducible exact impl_namesOf.mono _ _)
      | (with_reducible exact LeO.refl _)
      | (with_reducible exact LeO.none _)
      | (with_reducible refine LeO.ite ?_ ?_)
      | (with_reducible refine LeO.bind ?_ (fun _ => ?_))
      | exact ih0 _ _ _
      | exact ih1 _ _ _ _ _ _
      | exact impl_PartsOk.mono _ _
      | exact impl_SortedParts.mono _ _
      | exact impl_namesOf.mono _ _
      | exact LeO.none _
      | refine LeO.ite ?_ ?_
      | refine LeO.bind ?_ (fun _ => ?_)
    · intro y0 y1 y2 y3 y4 y5
      unfold impl_MustName.l0
      repeat' first
      | (with_reducible exact ih0 _ _ _)
      | (with_reducible exact ih1 _ _ _ _ _ _)
      | (with_reducible exact impl_PartsOk.mono _ _)
      | (with_reducible exact impl_SortedParts.mono _ _)
      | (with_reducible exact impl_namesOf.mono _ _)
      | (with_reducible exact LeO.refl _)
      | (with_reducible exact LeO.none _)
      | (with_reducible refine LeO.ite ?_ ?_)
      | (with_reducible refine LeO.bind ?_ (fun _ => ?_))
      | exact ih0 _ _ _
      | exact ih1 _ _ _ _ _ _
      | exact impl_PartsOk.mono _ _
      | exact impl_SortedParts.mono _ _
      | exact impl_namesOf.mono _ _
      | exact LeO.none _
      | refine LeO.ite ?_ ?_
      | refine LeO.bind ?_ (fun _ => ?_)
theorem impl_MustName.mono : ∀ a0 a1 k, LeO (impl_MustName.f k a0 a1) (impl_MustName.f (k + 1) a0 a1) := by
  intro a0 a1 k
  obtain ⟨ih0, ih1⟩ := impl_MustName.mono_l k
  unfold impl_MustName.f
  repeat' first
      | (with_reducible exact ih0 _ _ _)
      | (with_reducible exact ih1 _ _ _ _ _ _)
      | (with_reducible exact impl_PartsOk.mono _ _)
      | (with_reducible exact impl_SortedParts.mono _ _)
      | (with_reducible exact impl_namesOf.mono _ _)
      | (with_reducible exact LeO.refl _)
      | (with_reducible exact LeO.none _)
      | (with_reducible refine LeO.ite ?_ ?_)
      | (with_reducible refine LeO.bind ?_ (fun _ => ?_))
      | exact ih0 _ _ _
      | exact ih1 _ _ _ _ _ _
      | exact impl_PartsOk.mono _ _
      | exact impl_SortedParts.mono _ _
      | exact impl_namesOf.mono _ _
      | exact LeO.none _
      | refine LeO.ite ?_ ?_
      | refine LeO.bind ?_ (fun _ => ?_)
set_option maxHeartbeats 8000000 in
set_option maxRecDepth 100000 in
theorem impl_MustName.calls (k : Nat) (A0 : Option Addr) (c0 : Nat) (l0 : List (S26)) (a1 : Int) (r : List ByteArray) (w : World) (hr0 : Kd.C k26 w A0 l0.length l0) (hc0 : l0.length ≤ c0) (h : impl_MustName.f k l0 a1 = some r) :
    Calls Tryd.prog 20 #[.slice A0 l0.length c0, .int .i64 a1] w fun e w' => ∃ v0_ : Value, e = .returned (v0_) ∧ Kd.R Kd.string 9 w' w.heap.size (fun _ => True) v0_ r ∧ Below w.heap.size w w' := by
  have hu26 := Tryd.underlying26
  have HR0 := Aside0.mk hr0
  have HC0 := Aside0.mk hc0
  clear hr0 hc0
  have HB := Aside0.mk (Below.refl w.heap.size w)
  have H : ((impl_PartsOk.f k l0).bind fun t226 => (if t226 = true then ((impl_in.f a1 0 100).bind fun t227 => (impl_MustName.j0 k l0 (!t227) a1)) else (impl_MustName.j0 k l0 true a1))) = some r := h
  clear h
  have HC3 := Aside0.mk H
  clear H
  go_enter Tryd.func20, Tryd.ntmps20
  go_upto_region 1 with (first | ((with_reducible refine gate_dst (N := 3) rfl ?_); refine box_event ?hg (N := 3) ?hd (cs := #[.int .i64 a1]) (t := 3) ?hr ?_; (case hd => rfl); (case hg => rfl); (case hr => first | (go_simp; done) | (go_simp; rfl)); intro gb225 hg w4 hbox hb; have n0_ := Aside0.mk (below_step (by repeat (first | (with_reducible first | exact HB.out | apply below_alloc | apply pw_below_drewN | apply below_drew1) | exact HB.out)) hb); have n1_ := Aside0.mk (hbox); have n2_ := Aside0.mk ((by rw [hg]; exact (below_size (by repeat (first | (with_reducible first | exact HB.out | apply below_alloc | apply pw_below_drewN | apply below_drew1) | exact HB.out))) : w.heap.size ≤ gb225)); have n3_ := Aside0.mk ((by rw [hg]; exact (below_size (by repeat (first | (with_reducible first | exact HB.out | apply below_alloc | apply pw_below_drewN | apply below_drew1) | exact HB.out))) : w.heap.size ≤ gb225)); clear HB; have HB := n0_; have BK225 := n1_; have GW225 := n2_; have GE225 := n3_; clear n0_ n1_ n2_ n3_; clear hb hbox hg))
  (try simp only [Act.put, List.setIfInBounds_toArray, List.set_cons_zero, List.set_cons_succ])
  go_cut [15] (fun v15 wc => ∃ (kq : Nat) (x15_2 : Bool), v15 = .bool x15_2 ∧ Aside0 (impl_MustName.j0 kq l0 x15_2 a1 = some r) ∧ Aside0 (kq ≤ k) ∧ Aside0 (wc.heap[gb225]? = some (.cells #[.int .i64 a1] 3 (0, 0))) ∧ Aside0 (Below w.heap.size w wc))
  case first =>
    have H := HC3.out
    clear HC3
    replace H := Option.bind_eq_some_iff.mp H
    obtain ⟨t226, A50, H⟩ := H
    replace H : (if t226 = true then ((impl_in.f a1 0 100).bind fun t227 => (impl_MustName.j0 k l0 (!t227) a1)) else (impl_MustName.j0 k l0 true a1)) = some r := H
    have A5 := Aside0.mk A50
    clear A50
    by_cases c6 : t226 = true
    · subst c6
      have H1 : ((impl_in.f a1 0 100).bind fun t227 => (impl_MustName.j0 k l0 (!t227) a1)) = some r := by rw [if_pos rfl] at H; exact H
      clear H
      have H := H1
      clear H1
      replace H := Option.bind_eq_some_iff.mp H
      obtain ⟨t227, A70, H⟩ := H
      replace H : (impl_MustName.j0 k l0 (!t227) a1) = some r := H
      have A7 := Aside0.mk A70
      clear A70
      have H' := Aside0.mk H
      clear H
      go_wp2_with (first | ((with_reducible refine gate_callee (f := 21) rfl ?_); refine goesL_ (some 9) rfl rfl Tryd.func21 (by kernel_rfl) rfl #[.slice A0 l0.length c0] rfl (by (try simp only [List.map_toArray, List.map_cons, List.map_nil]); first | done | rfl | (simp only [List.length_drop, List.length_take]; rfl)) ?_; (with_reducible refine (impl_PartsOk.calls k _ _ l0 true _ ?side1 ?side2 A5.out).mono ?_); (case side1 => repeat (first | exact (Kd.C_below HR0.out HB.out) | (with_reducible refine Kd.C_alloc ?_ _) | (with_reducible refine Kd.C_drewN ?_ _) | (with_reducible refine Kd.C_drew ?_))); (case side2 => exact HC0.out); rintro e w8 ⟨rfl, hb⟩; refine ⟨_, rfl, ?_⟩; have n0_ := Aside0.mk (blk_below (g := gb225) (o := .cells #[.int .i64 a1] 3 (0, 0)) (by (with_reducible repeat (first | refine blk_drewN ?_ _ | refine blk_drew ?_ | refine blk_alloc ?_ _)); exact BK225.out) hb); have n1_ := Aside0.mk (below_step (by repeat (first | (with_reducible first | exact HB.out | apply below_alloc | apply pw_below_drewN | apply below_drew1 | refine below_set ?_ GE225.out) | exact HB.out)) hb); clear BK225; clear HB; have BK225 := n0_; have HB := n1_; clear n0_ n1_; (try clear hb); (try clear hb2); (try clear hk); (try clear hi); have hcz9_0 : w8.cell? ⟨gb225, 0, none⟩ = some (.int .i64 a1) := (blk_cell BK225.out 0).trans rfl; have hfz9_0 := blk_frozen BK225.out 0) | (go_at_call 25; (with_reducible refine (impl_in.calls a1 0 100 t227 _ A7.out).mono ?_); rintro e w' ⟨rfl, ⟨nd, rfl⟩⟩))
      go_meet
      case rel => exact ⟨_, (!t227), (by first | rfl | (simp; done) | (simp [*]; done)), H', ⟨by first | omega | exact Nat.le_refl _⟩, ⟨by (with_reducible repeat (first | refine blk_drewN ?_ _ | refine blk_drew ?_ | refine blk_alloc ?_ _)); exact BK225.out⟩, ⟨by repeat (first | (with_reducible first | exact HB.out | apply below_alloc | apply pw_below_drewN | apply below_drew1 | refine below_set ?_ GE225.out) | exact HB.out)⟩⟩
    · replace c6 := Bool.eq_false_iff.mpr c6
      subst c6
      have H1 : (impl_MustName.j0 k l0 true a1) = some r := by rw [if_neg (show ¬ (false = true) by decide)] at H; exact H
      clear H
      have H := H1
      clear H1
      have H' := Aside0.mk H
      clear H
      go_wp2_with (first | ((with_reducible refine gate_callee (f := 21) rfl ?_); refine goesL_ (some 9) rfl rfl Tryd.func21 (by kernel_rfl) rfl #[.slice A0 l0.length c0] rfl (by (try simp only [List.map_toArray, List.map_cons, List.map_nil]); first | done | rfl | (simp only [List.length_drop, List.length_take]; rfl)) ?_; (with_reducible refine (impl_PartsOk.calls k _ _ l0 false _ ?side1 ?side2 A5.out).mono ?_); (case side1 => repeat (first | exact (Kd.C_below HR0.out HB.out) | (with_reducible refine Kd.C_alloc ?_ _) | (with_reducible refine Kd.C_drewN ?_ _) | (with_reducible refine Kd.C_drew ?_))); (case side2 => exact HC0.out); rintro e w10 ⟨rfl, hb⟩; refine ⟨_, rfl, ?_⟩; have n0_ := Aside0.mk (blk_below (g := gb225) (o := .cells #[.int .i64 a1] 3 (0, 0)) (by (with_reducible repeat (first | refine blk_drewN ?_ _ | refine blk_drew ?_ | refine blk_alloc ?_ _)); exact BK225.out) hb); have n1_ := Aside0.mk (below_step (by repeat (first | (with_reducible first | exact HB.out | apply below_alloc | apply pw_below_drewN | apply below_drew1 | refine below_set ?_ GE225.out) | exact HB.out)) hb); clear BK225; clear HB; have BK225 := n0_; have HB := n1_; clear n0_ n1_; (try clear hb); (try clear hb2); (try clear hk); (try clear hi)))
      go_meet
      case rel => exact ⟨_, (true), (by first | rfl | (simp; done) | (simp [*]; done)), H', ⟨by first | omega | exact Nat.le_refl _⟩, ⟨by (with_reducible repeat (first | refine blk_drewN ?_ _ | refine blk_drew ?_ | refine blk_alloc ?_ _)); exact BK225.out⟩, ⟨by repeat (first | (with_reducible first | exact HB.out | apply below_alloc | apply pw_below_drewN | apply below_drew1 | refine below_set ?_ GE225.out) | exact HB.out)⟩⟩
  case rest =>
    clear HC3
    try clear c2
    try clear p2
    try clear c6
    try clear hcz9_0
    try clear hfz9_0
    obtain ⟨kq, x15_2, rfl, HA, HJ2, BK225, HB⟩ := hcut
    cases kq with
    | zero => exact absurd HA.out (by simp [impl_MustName.j0])
    | succ kj2 =>
      have H := HA.out
      clear HA
      simp only [impl_MustName.j0] at H
      by_cases c11 : x15_2 = true
      · subst c11
        have H1 : (some ([] : List ByteArray)) = some r := by rw [if_pos rfl] at H; exact H
        clear H
        have H := H1
        clear H1
        obtain rfl := Option.some.inj H
        go_wp2
        go_ret
        exact ⟨_, by first | rfl | (simp [errW_none, errW_some] <;> rfl) | (simp [*, errW_none, errW_some] <;> rfl), by first | exact Kd.R_nil _ _ _ _ _ | exact Kd.N_nil _ _ _ _ _ | exact Kd.V_nil _ _ _ _ _ | exact Kd.Q_nil _ _ _ _ _ | exact Kd.S_nil _ _ _ _ _, by repeat (first | (with_reducible first | exact HB.out | apply below_alloc | apply pw_below_drewN | apply below_drew1 | refine below_set ?_ GE225.out) | exact HB.out)⟩
      · replace c11 := Bool.eq_false_iff.mpr c11
        subst c11
        have H1 : (impl_MustName.l0 kj2 l0 l0 (l0.length : Int) 0 a1 0) = some r := by rw [if_neg (show ¬ (false = true) by decide)] at H; exact H
        clear H
        have H := H1
        clear H1
        have H' := Aside0.mk H
        clear H
        go_wp2_with (first | ((with_reducible refine gate_dst (N := 5) rfl ?_); refine box_event ?hg (N := 5) ?hd (cs := #[.int .i64 0]) (t := 3) ?hr ?_; (case hd => rfl); (case hg => rfl); (case hr => first | (go_simp; done) | (go_simp; rfl)); intro gb228 hg w12 hbox hb; have n0_ := Aside0.mk (blk_below (g := gb225) (o := .cells #[.int .i64 a1] 3 (0, 0)) (by (with_reducible repeat (first | refine blk_drewN ?_ _ | refine blk_drew ?_ | refine blk_alloc ?_ _)); exact BK225.out) hb); have n1_ := Aside0.mk (below_step (by repeat (first | (with_reducible first | exact HB.out | apply below_alloc | apply pw_below_drewN | apply below_drew1 | refine below_set ?_ GE225.out) | exact HB.out)) hb); have n2_ := Aside0.mk (hbox); have n3_ := Aside0.mk ((by rw [hg]; exact (below_size (by repeat (first | (with_reducible first | exact HB.out | apply below_alloc | apply pw_below_drewN | apply below_drew1 | refine below_set ?_ GE225.out) | exact HB.out))) : w.heap.size ≤ gb228)); have n4_ := Aside0.mk ((by rw [hg]; exact (below_size (by repeat (first | (with_reducible first | exact HB.out | apply below_alloc | apply pw_below_drewN | apply below_drew1 | refine below_set ?_ GE225.out) | exact HB.out))) : w.heap.size ≤ gb228)); have n5_ := Aside0.mk ((by rw [hg]; exact Nat.ne_of_lt (blk_lt (g := gb225) (o := .cells #[.int .i64 a1] 3 (0, 0)) (by (with_reducible repeat (first | refine blk_drewN ?_ _ | refine blk_drew ?_ | refine blk_alloc ?_ _)); exact BK225.out)) : gb225 ≠ gb228)); have n6_ := Aside0.mk ((by rw [hg]; exact Nat.ne_of_gt (blk_lt (g := gb225) (o := .cells #[.int .i64 a1] 3 (0, 0)) (by (with_reducible repeat (first | refine blk_drewN ?_ _ | refine blk_drew ?_ | refine blk_alloc ?_ _)); exact BK225.out)) : gb228 ≠ gb225)); clear BK225; clear HB; have BK225 := n0_; have HB := n1_; have BK228 := n2_; have GW228 := n3_; have GE228 := n4_; have NB225_228 := n5_; have NB228_225 := n6_; clear n0_ n1_ n2_ n3_ n4_ n5_ n6_; clear hb hbox hg; have hnb13 := NB228_225.out; have hnc13 := NB225_228.out; have hcz14_0 : w12.cell? ⟨gb228, 0, none⟩ = some (.int .i64 0) := (blk_cell BK228.out 0).trans rfl; have hfz14_0 := blk_frozen BK228.out 0))
        go_loopg [18] kj2 (fun kq v18 w' => ∃ (x18_2 : Int) (z_ : Int), v18 = .int .i64 x18_2 ∧ Aside0 (impl_MustName.l0 kq l0 l0 (l0.length : Int) x18_2 a1 z_ = some r) ∧ Aside0 (kq ≤ kj2) ∧ Aside0 (w'.heap[gb225]? = some (.cells #[.int .i64 a1] 3 (0, 0))) ∧ Aside0 (w'.heap[gb228]? = some (.cells #[.int .i64 z_] 3 (0, 0))) ∧ Aside0 (Below w.heap.size w w'))
        case atStart => exact ⟨(0), (0), (by first | rfl | (simp; done) | (simp [*]; done)), H', ⟨Nat.le_refl _⟩, ⟨by (with_reducible repeat (first | refine blk_drewN ?_ _ | refine blk_drew ?_ | refine blk_alloc ?_ _)); refine blk_far ?_ NB225_228.out _; (with_reducible repeat (first | refine blk_drewN ?_ _ | refine blk_drew ?_ | refine blk_alloc ?_ _)); exact BK225.out⟩, ⟨by (with_reducible repeat (first | refine blk_drewN ?_ _ | refine blk_drew ?_ | refine blk_alloc ?_ _)); refine blk_put (cs := #[.int .i64 0]) ?_ 0 _ rfl; (with_reducible repeat (first | refine blk_drewN ?_ _ | refine blk_drew ?_ | refine blk_alloc ?_ _)); exact BK228.out⟩, ⟨by repeat (first | (with_reducible first | exact HB.out | apply below_alloc | apply pw_below_drewN | apply below_drew1 | refine below_set ?_ GE225.out | refine below_set ?_ GE228.out) | exact HB.out)⟩⟩
        case round =>
          clear H'
          try clear c1
          try clear c2
          try clear p2
          try clear c6
          try clear c11
          try clear c13
          try clear hcz14_0
          try clear hcz9_0
          try clear hfz14_0
          try clear hfz9_0
          try clear p2
          obtain ⟨x18_2, z_, rfl, HA, HK2, BK225, BK228, HB⟩ := hrel
          cases gk with
          | zero => exact absurd HA.out (by simp [impl_MustName.l0])
          | succ k2 =>
            have H := HA.out
            clear HA
            simp only [impl_MustName.l0] at H
            by_cases c15 : x18_2 < (l0.length : Int)
            · rw [if_pos c15] at H
              have c15b0 : decide (x18_2 < (l0.length : Int)) = true := decide_eq_true c15
              clear c15
              by_cases c16 : 0 ≤ x18_2
              · rw [if_pos c16] at H
                have c16b0 : decide (0 ≤ x18_2) = true := decide_eq_true c16
                clear c16
                by_cases c17 : x18_2 < (l0.length : Int)
                · rw [if_pos c17] at H
                  have c17b0 : decide (x18_2 < (l0.length : Int)) = true := decide_eq_true c17
                  clear c17
                  have H' := Aside0.mk H
                  clear H
                  have p229 : 0 ≤ (x18_2 : Int) := of_decide_eq_true (by first | (with_reducible assumption) | assumption)
                  have q229 : x18_2 < (l0.length : Int) := of_decide_eq_true (by first | (with_reducible assumption) | assumption)
                  obtain ⟨ad229, e229, hx229_0, hx229_1⟩ := at_T26 HR0.out x18_2 p229 q229
                  cases e229
                  replace hx229_0 := (HB.out.cell (World.block_lt_of_cell? w _ hx229_0)).trans hx229_0
                  replace hx229_1 := (HB.out.cell (World.block_lt_of_cell? w _ hx229_1)).trans hx229_1
                  replace p229 := eq_true p229
                  replace q229 := eq_true q229
                  go_wp2_with (first | ((with_reducible refine gate_dst (N := 7) rfl ?_); refine box_event ?hg (N := 7) ?hd (cs := #[.string (⟨#[]⟩ : ByteArray), .int .i64 0]) (t := 26) ?hr ?_; (case hd => rfl); (case hg => rfl); (case hr => first | (go_simp; done) | (go_simp; rfl)); intro gb230 hg w18 hbox hb; have n0_ := Aside0.mk (blk_below (g := gb225) (o := .cells #[.int .i64 a1] 3 (0, 0)) (by (with_reducible repeat (first | refine blk_drewN ?_ _ | refine blk_drew ?_ | refine blk_alloc ?_ _)); exact BK225.out) hb); have n1_ := Aside0.mk (blk_below (g := gb228) (o := .cells #[.int .i64 z_] 3 (0, 0)) (by (with_reducible repeat (first | refine blk_drewN ?_ _ | refine blk_drew ?_ | refine blk_alloc ?_ _)); exact BK228.out) hb); have n2_ := Aside0.mk (below_step (by repeat (first | (with_reducible first | exact HB.out | apply below_alloc | apply pw_below_drewN | apply below_drew1 | refine below_set ?_ GE225.out | refine below_set ?_ GE228.out) | exact HB.out)) hb); have n3_ := Aside0.mk (hbox); have n4_ := Aside0.mk ((by rw [hg]; exact (below_size (by repeat (first | (with_reducible first | exact HB.out | apply below_alloc | apply pw_below_drewN | apply below_drew1 | refine below_set ?_ GE225.out | refine below_set ?_ GE228.out) | exact HB.out))) : w.heap.size ≤ gb230)); have n5_ := Aside0.mk ((by rw [hg]; exact (below_size (by repeat (first | (with_reducible first | exact HB.out | apply below_alloc | apply pw_below_drewN | apply below_drew1 | refine below_set ?_ GE225.out | refine below_set ?_ GE228.out) | exact HB.out))) : w.heap.size ≤ gb230)); have n6_ := Aside0.mk ((by rw [hg]; exact Nat.ne_of_lt (blk_lt (g := gb225) (o := .cells #[.int .i64 a1] 3 (0, 0)) (by (with_reducible repeat (first | refine blk_drewN ?_ _ | refine blk_drew ?_ | refine blk_alloc ?_ _)); exact BK225.out)) : gb225 ≠ gb230)); have n7_ := Aside0.mk ((by rw [hg]; exact Nat.ne_of_gt (blk_lt (g := gb225) (o := .cells #[.int .i64 a1] 3 (0, 0)) (by (with_reducible repeat (first | refine blk_drewN ?_ _ | refine blk_drew ?_ | refine blk_alloc ?_ _)); exact BK225.out)) : gb230 ≠ gb225)); have n8_ := Aside0.mk ((by rw [hg]; exact Nat.ne_of_lt (blk_lt (g := gb228) (o := .cells #[.int .i64 z_] 3 (0, 0)) (by (with_reducible repeat (first | refine blk_drewN ?_ _ | refine blk_drew ?_ | refine blk_alloc ?_ _)); exact BK228.out)) : gb228 ≠ gb230)); have n9_ := Aside0.mk ((by rw [hg]; exact Nat.ne_of_gt (blk_lt (g := gb228) (o := .cells #[.int .i64 z_] 3 (0, 0)) (by (with_reducible repeat (first | refine blk_drewN ?_ _ | refine blk_drew ?_ | refine blk_alloc ?_ _)); exact BK228.out)) : gb230 ≠ gb228)); clear BK225; clear BK228; clear HB; have BK225 := n0_; have BK228 := n1_; have HB := n2_; have BK230 := n3_; have GW230 := n4_; have GE230 := n5_; have NB225_230 := n6_; have NB230_225 := n7_; have NB228_230 := n8_; have NB230_228 := n9_; clear n0_ n1_ n2_ n3_ n4_ n5_ n6_ n7_ n8_ n9_; clear hb hbox hg; have hnb19 := NB230_225.out; have hnc19 := NB225_230.out; have hnb20 := NB230_228.out; have hnc20 := NB228_230.out; have hcz21_0 : w18.cell? ⟨gb230, 0, none⟩ = some (.string (⟨#[]⟩ : ByteArray)) := (blk_cell BK230.out 0).trans rfl; have hcz21_1 : w18.cell? ⟨gb230, 1, none⟩ = some (.int .i64 0) := (blk_cell BK230.out 1).trans rfl; have hfz21_0 := blk_frozen BK230.out 0; have hfz21_1 := blk_frozen BK230.out 1; have hnb22 := NB228_225.out; have hnc22 := NB225_228.out; have hcz23_0 : w18.cell? ⟨gb228, 0, none⟩ = some (.int .i64 z_) := (blk_cell BK228.out 0).trans rfl; have hfz23_0 := blk_frozen BK228.out 0))
                  go_roundg k2
                  case measure => have := HJ2.out; have := HK2.out; omega
                  case rel => exact ⟨(wrap64 (x18_2 + 1)), (wrap64 (z_ + ((rd_T26 l0 x18_2).f1))), (by first | rfl | (simp; done) | (simp [*]; done)), H', ⟨by have := HJ2.out; have := HK2.out; omega⟩, ⟨by (with_reducible repeat (first | refine blk_drewN ?_ _ | refine blk_drew ?_ | refine blk_alloc ?_ _)); refine blk_far ?_ NB225_228.out _; (with_reducible repeat (first | refine blk_drewN ?_ _ | refine blk_drew ?_ | refine blk_alloc ?_ _)); refine blk_far ?_ NB225_230.out _; (with_reducible repeat (first | refine blk_drewN ?_ _ | refine blk_drew ?_ | refine blk_alloc ?_ _)); refine blk_far ?_ NB225_230.out _; (with_reducible repeat (first | refine blk_drewN ?_ _ | refine blk_drew ?_ | refine blk_alloc ?_ _)); exact BK225.out⟩, ⟨by (with_reducible repeat (first | refine blk_drewN ?_ _ | refine blk_drew ?_ | refine blk_alloc ?_ _)); refine blk_put (cs := #[.int .i64 z_]) ?_ 0 _ rfl; (with_reducible repeat (first | refine blk_drewN ?_ _ | refine blk_drew ?_ | refine blk_alloc ?_ _)); refine blk_far ?_ NB228_230.out _; (with_reducible repeat (first | refine blk_drewN ?_ _ | refine blk_drew ?_ | refine blk_alloc ?_ _)); refine blk_far ?_ NB228_230.out _; (with_reducible repeat (first | refine blk_drewN ?_ _ | refine blk_drew ?_ | refine blk_alloc ?_ _)); exact BK228.out⟩, ⟨by repeat (first | (with_reducible first | exact HB.out | apply below_alloc | apply pw_below_drewN | apply below_drew1 | refine below_set ?_ GE225.out | refine below_set ?_ GE228.out | refine below_set ?_ GE230.out) | exact HB.out)⟩⟩
                · rw [if_neg c17] at H
                  exact absurd H (by simp)
              · rw [if_neg c16] at H
                exact absurd H (by simp)
            · rw [if_neg c15] at H
              have c15b0 : decide (x18_2 < (l0.length : Int)) = false := decide_eq_false c15
              clear c15
              replace H := Option.bind_eq_some_iff.mp H
              obtain ⟨t231, A240, H⟩ := H
              replace H : ((impl_Part_40.f t231 (a1, z_)).bind fun t234 => ((impl_namesOf.f k2 t234).bind fun t237 => (some t237))) = some r := H
              have A24 := Aside0.mk A240
              clear A240
              replace H := Option.bind_eq_some_iff.mp H
              obtain ⟨t234, A250, H⟩ := H
              replace H : ((impl_namesOf.f k2 t234).bind fun t237 => (some t237)) = some r := H
              have A25 := Aside0.mk A250
              clear A250
              replace H := Option.bind_eq_some_iff.mp H
              obtain ⟨t237, A260, H⟩ := H
              replace H : (some t237) = some r := H
              have A26 := Aside0.mk A260
              clear A260
              obtain rfl := Option.some.inj H
              go_wp2_with (first | ((with_reducible refine gate_callee (f := 17) rfl ?_); refine goesL_ (some 28) rfl rfl Tryd.func17 (by kernel_rfl) rfl #[.slice A0 l0.length c0] rfl (by (try simp only [List.map_toArray, List.map_cons, List.map_nil]); first | done | rfl | (simp only [List.length_drop, List.length_take]; rfl)) ?_; (with_reducible refine (impl_SortedParts.calls k2 _ _ l0 t231 _ ?side1 ?side2 A24.out).mono ?_); (case side1 => repeat (first | exact (Kd.C_below HR0.out HB.out) | (with_reducible refine Kd.C_alloc ?_ _) | (with_reducible refine Kd.C_drewN ?_ _) | (with_reducible refine Kd.C_drew ?_))); (case side2 => exact HC0.out); rintro e w27 ⟨v232, rfl, ho0, hb⟩; refine ⟨_, rfl, ?_⟩; have n0_ := Aside0.mk (Kd.R_lower ho0 (below_size (by repeat (first | (with_reducible first | exact HB.out | apply below_alloc | apply pw_below_drewN | apply below_drew1 | refine below_set ?_ GE225.out | refine below_set ?_ GE228.out) | exact HB.out)))); have n1_ := Aside0.mk (blk_below (g := gb225) (o := .cells #[.int .i64 a1] 3 (0, 0)) (by (with_reducible repeat (first | refine blk_drewN ?_ _ | refine blk_drew ?_ | refine blk_alloc ?_ _)); exact BK225.out) hb); have n2_ := Aside0.mk (blk_below (g := gb228) (o := .cells #[.int .i64 z_] 3 (0, 0)) (by (with_reducible repeat (first | refine blk_drewN ?_ _ | refine blk_drew ?_ | refine blk_alloc ?_ _)); exact BK228.out) hb); have n3_ := Aside0.mk (below_step (by repeat (first | (with_reducible first | exact HB.out | apply below_alloc | apply pw_below_drewN | apply below_drew1 | refine below_set ?_ GE225.out | refine below_set ?_ GE228.out) | exact HB.out)) hb); clear BK225; clear BK228; clear HB; have HO233 := n0_; have BK225 := n1_; have BK228 := n2_; have HB := n3_; clear n0_ n1_ n2_ n3_; (try clear hb); (try clear hb2); (try clear hk); (try clear hi); (try clear ho0); obtain ⟨Ao28, co28, eo28⟩ := Kd.R_slice HO233.out; subst eo28) | ((with_reducible refine gate_callee (f := 40) rfl ?_); refine goesL_ (some 30) rfl rfl Tryd.func40 (by kernel_rfl) rfl #[.slice Ao28 t231.length co28, .func (.func 41) #[] #[.pointer (some ⟨gb225, 0, none⟩), .pointer (some ⟨gb228, 0, none⟩)]] rfl (by (try simp only [List.map_toArray, List.map_cons, List.map_nil]); first | done | rfl | (simp only [List.length_drop, List.length_take]; rfl)) ?_; (with_reducible refine (impl_Part_40.callsB (g1 := gb225) (g2 := gb228) (.slice Ao28 t231.length co28) t231 (a1, z_) t234 w.heap.size (fun _ => True) _ ?b1 ?b2 ?side1 A25.out).mono ?_); (case b1 => exact (blk_cell (by (with_reducible repeat (first | refine blk_drewN ?_ _ | refine blk_drew ?_ | refine blk_alloc ?_ _)); exact BK225.out) 0).trans rfl); (case b2 => exact (blk_cell (by (with_reducible repeat (first | refine blk_drewN ?_ _ | refine blk_drew ?_ | refine blk_alloc ?_ _)); exact BK228.out) 0).trans rfl); (case side1 => ((with_reducible repeat (first | apply Kd.R_alloc | apply Kd.R_drewN | apply Kd.R_drew)); exact HO233.out)); rintro e w29 ⟨v235, rfl, ho0, hg⟩; refine ⟨_, rfl, ?_⟩; have n1_ := Aside0.mk ho0; have n4_ := Aside0.mk (pw_below_grown (by repeat (first | (with_reducible first | exact HB.out | apply below_alloc | apply pw_below_drewN | apply below_drew1) | exact HB.out)) _ (below_size (by repeat (first | (with_reducible first | exact HB.out | apply below_alloc | apply pw_below_drewN | apply below_drew1) | exact HB.out))) hg (fun k_ e_ => Kd.R_base HO233.out k_ e_)); clear HO233 HB hg ho0; have HO236 := n1_; have HB := n4_; clear n1_ n4_; obtain ⟨Ao30, co30, eo30⟩ := Kd.R_slice HO236.out; subst eo30) | ((with_reducible refine gate_callee (f := 39) rfl ?_); refine goesL_ (some 31) rfl rfl Tryd.func39 (by kernel_rfl) rfl #[.slice Ao30 t234.length co30] rfl (by (try simp only [List.map_toArray, List.map_cons, List.map_nil]); first | done | rfl | (simp only [List.length_drop, List.length_take]; rfl)) ?_; (with_reducible refine (impl_namesOf.calls k2 _ _ t234 t237 _ ?side1 ?side2 A26.out).mono ?_); (case side1 => repeat (first | exact (Kd.R_reads' HO236.out).2.2 | (with_reducible refine Kd.C_alloc ?_ _) | (with_reducible refine Kd.C_drewN ?_ _) | (with_reducible refine Kd.C_drew ?_))); (case side2 => exact (Kd.R_reads' HO236.out).2.1); rintro e w31 ⟨v238, rfl, ho0, hb⟩; refine ⟨_, rfl, ?_⟩; have n1_ := Aside0.mk (Kd.R_below (by (with_reducible repeat (first | apply Kd.R_alloc | apply Kd.R_drewN | apply Kd.R_drew)); exact HO236.out) hb); have n2_ := Aside0.mk (Kd.R_lower ho0 (below_size (by repeat (first | (with_reducible first | exact HB.out | apply below_alloc | apply pw_below_drewN | apply below_drew1 | refine below_set ?_ GE225.out | refine below_set ?_ GE228.out) | exact HB.out)))); have n5_ := Aside0.mk (below_step (by repeat (first | (with_reducible first | exact HB.out | apply below_alloc | apply pw_below_drewN | apply below_drew1 | refine below_set ?_ GE225.out | refine below_set ?_ GE228.out) | exact HB.out)) hb); clear HO236; clear HB; have HO236 := n1_; have HO239 := n2_; have HB := n5_; clear n1_ n2_ n5_; (try clear hb); (try clear hb2); (try clear hk); (try clear hi); (try clear ho0)))
              go_ret
              exact ⟨_, by first | rfl | (simp [errW_none, errW_some] <;> rfl) | (simp [*, errW_none, errW_some] <;> rfl), by (with_reducible repeat (first | apply Kd.R_alloc | apply Kd.R_drewN | apply Kd.R_drew)); exact HO239.out, by repeat (first | (with_reducible first | exact HB.out | apply below_alloc | apply pw_below_drewN | apply below_drew1 | refine below_set ?_ GE225.out | refine below_set ?_ GE228.out) | exact HB.out)⟩

end Go.Proofs.YtjabgjlkemfofaaDoor.Q
