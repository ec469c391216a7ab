/- The functions that the seat's statements reach, as plain Lean functions, and that the program's calls answer what they say; no condition beyond the values read. Written by a program of this session's over the kit's print. -/
import Derived.Test.YtkgpjndlpjjobaaQx0
namespace Go.Proofs.Ytkgpjndlpjjobaa.Q
open Go.RowKit Go.Proofs.YtkgpjndlpjjobaaW.PrintWords Go.Proofs.YtkgpjndlpjjobaaW.PrintLast Go.Proofs.YtkgpjndlpjjobaaW.PrintMore
attribute [local go_sem] max2_int min2_int max_two min_two max_three min_three max_four min_four   -- for this text's walks alone
set_option linter.unusedVariables false
set_option linter.unusedSimpArgs false

/-! ### impl_in: function 29 -/
def impl_in.f (a0 : Int) (a1 : Int) (a2 : Int) : Option (Bool) := if a1 ≤ a0 then (some (decide (a0 ≤ a2))) else (some false)
set_option maxHeartbeats 8000000 in
set_option maxRecDepth 100000 in
theorem impl_in.calls (a0 : Int) (a1 : Int) (a2 : Int) (r : Bool) (w : World) (h : impl_in.f a0 a1 a2 = some r) :
    Calls Try.prog 29 #[.int .i64 a0, .int .i64 a1, .int .i64 a2] w fun e w' => e = .returned (.bool r) ∧ Drawn0 w w' := by
  have H : (if a1 ≤ a0 then (some (decide (a0 ≤ a2))) else (some false)) = some r := h
  clear h
  by_cases c4 : a1 ≤ a0
  · rw [if_pos c4] at H
    have c4b0 : decide (a1 ≤ a0) = true := decide_eq_true c4
    clear c4
    obtain rfl := Option.some.inj H
    go_enter Try.func29, Try.ntmps29
    go_wp2
    go_ret
    exact ⟨by first | rfl | (simp; done) | (simp [*]; done), by repeat (first | exact Drawn0.refl _ | apply Drawn0.step)⟩
  · rw [if_neg c4] at H
    have c4b0 : decide (a1 ≤ a0) = false := decide_eq_false c4
    clear c4
    obtain rfl := Option.some.inj H
    go_enter Try.func29, Try.ntmps29
    go_wp2
    go_ret
    exact ⟨by first | rfl | (simp; done) | (simp [*]; done), by repeat (first | exact Drawn0.refl _ | apply Drawn0.step)⟩

/-! ### impl_FloursOk_1: function 31 -/
def impl_FloursOk_1.f (a0_0 : Int) (a0_1 : Int) (a0_2 : Int) : Option (Bool) := (impl_in.f a0_0 50 500).bind fun t102 => (if t102 = true then ((impl_in.f a0_1 1 100).bind fun t103 => (if t103 = true then ((impl_in.f a0_2 0 100).bind fun t104 => (some (!t104))) else (some true))) else (some true))
set_option maxHeartbeats 8000000 in
set_option maxRecDepth 100000 in
theorem impl_FloursOk_1.calls (a0_0 : Int) (a0_1 : Int) (a0_2 : Int) (r : Bool) (w : World) (h : impl_FloursOk_1.f a0_0 a0_1 a0_2 = some r) :
    Calls Try.prog 31 #[.agg #[.int .i64 a0_0, .int .i64 a0_1, .int .i64 a0_2]] w fun e w' => e = .returned (.bool r) ∧ Below w.heap.size w w' := by
  have hu42 := Try.underlying42
  have HB := Aside0.mk (Below.refl w.heap.size w)
  have H : ((impl_in.f a0_0 50 500).bind fun t102 => (if t102 = true then ((impl_in.f a0_1 1 100).bind fun t103 => (if t103 = true then ((impl_in.f a0_2 0 100).bind fun t104 => (some (!t104))) else (some true))) else (some true))) = some r := h
  clear h
  replace H := Option.bind_eq_some_iff.mp H
  obtain ⟨t102, A20, H⟩ := H
  replace H : (if t102 = true then ((impl_in.f a0_1 1 100).bind fun t103 => (if t103 = true then ((impl_in.f a0_2 0 100).bind fun t104 => (some (!t104))) else (some true))) else (some true)) = some r := H
  have A2 := Aside0.mk A20
  clear A20
  by_cases c3 : t102 = true
  · subst c3
    have H1 : ((impl_in.f a0_1 1 100).bind fun t103 => (if t103 = true then ((impl_in.f a0_2 0 100).bind fun t104 => (some (!t104))) else (some true))) = some r := by rw [if_pos rfl] at H; exact H
    clear H
    have H := H1
    clear H1
    replace H := Option.bind_eq_some_iff.mp H
    obtain ⟨t103, A40, H⟩ := H
    replace H : (if t103 = true then ((impl_in.f a0_2 0 100).bind fun t104 => (some (!t104))) else (some true)) = some r := H
    have A4 := Aside0.mk A40
    clear A40
    by_cases c5 : t103 = true
    · subst c5
      have H1 : ((impl_in.f a0_2 0 100).bind fun t104 => (some (!t104))) = some r := by rw [if_pos rfl] at H; exact H
      clear H
      have H := H1
      clear H1
      replace H := Option.bind_eq_some_iff.mp H
      obtain ⟨t104, A60, H⟩ := H
      replace H : (some (!t104)) = some r := H
      have A6 := Aside0.mk A60
      clear A60
      obtain rfl := Option.some.inj H
      go_enter Try.func31, Try.ntmps31
      go_wp2_with (first | ((with_reducible refine gate_dst (N := 1) rfl ?_); refine box_event ?hg (N := 1) ?hd (cs := #[.int .i64 a0_0, .int .i64 a0_1, .int .i64 a0_2]) (t := 42) ?hr ?_; (case hd => rfl); (case hg => rfl); (case hr => first | (go_simp; done) | (go_simp; rfl)); intro gb101 hg w7 hbox hb; have n0_ := Aside0.mk (below_step (by repeat (first | (with_reducible first | exact HB.out | apply below_alloc | apply pw_below_drewN | apply below_drew1) | exact HB.out)) hb); have n1_ := Aside0.mk (hbox); have n2_ := Aside0.mk ((by rw [hg]; exact (below_size (by repeat (first | (with_reducible first | exact HB.out | apply below_alloc | apply pw_below_drewN | apply below_drew1) | exact HB.out))) : w.heap.size ≤ gb101)); have n3_ := Aside0.mk ((by rw [hg]; exact (below_size (by repeat (first | (with_reducible first | exact HB.out | apply below_alloc | apply pw_below_drewN | apply below_drew1) | exact HB.out))) : w.heap.size ≤ gb101)); clear HB; have HB := n0_; have BK101 := n1_; have GW101 := n2_; have GE101 := n3_; clear n0_ n1_ n2_ n3_; clear hb hbox hg; have hcz8_0 : w7.cell? ⟨gb101, 0, none⟩ = some (.int .i64 a0_0) := (blk_cell BK101.out 0).trans rfl; have hcz8_1 : w7.cell? ⟨gb101, 1, none⟩ = some (.int .i64 a0_1) := (blk_cell BK101.out 1).trans rfl; have hcz8_2 : w7.cell? ⟨gb101, 2, none⟩ = some (.int .i64 a0_2) := (blk_cell BK101.out 2).trans rfl; have hfz8_0 := blk_frozen BK101.out 0; have hfz8_1 := blk_frozen BK101.out 1; have hfz8_2 := blk_frozen BK101.out 2) | ((with_reducible refine gate_callee (f := 29) rfl ?_); refine goesL_ (some 5) rfl rfl Try.func29 (by kernel_rfl) rfl #[.int .i64 a0_0, .int .i64 50, .int .i64 500] rfl (by (try simp only [List.map_toArray, List.map_cons, List.map_nil]); first | done | rfl | (simp only [List.length_drop, List.length_take]; rfl)) ?_; (with_reducible refine (impl_in.calls a0_0 50 500 true _ A2.out).mono ?_); rintro e w' ⟨rfl, ⟨nd, rfl⟩⟩; refine ⟨_, rfl, ?_⟩) | (go_at_call 29; (with_reducible refine (impl_in.calls a0_1 1 100 true _ A4.out).mono ?_); rintro e w' ⟨rfl, ⟨nd, rfl⟩⟩) | (go_at_call 29; (with_reducible refine (impl_in.calls a0_2 0 100 t104 _ A6.out).mono ?_); rintro e w' ⟨rfl, ⟨nd, rfl⟩⟩))
      go_ret
      exact ⟨by first | rfl | (simp [errW_none, errW_some] <;> rfl) | (simp [*, errW_none, errW_some] <;> rfl), by repeat (first | (with_reducible first | exact HB.out | apply below_alloc | apply pw_below_drewN | apply below_drew1 | refine below_set ?_ GE101.out) | exact HB.out)⟩
    · replace c5 := Bool.eq_false_iff.mpr c5
      subst c5
      have H1 : (some true) = some r := by rw [if_neg (show ¬ (false = true) by decide)] at H; exact H
      clear H
      have H := H1
      clear H1
      obtain rfl := Option.some.inj H
      go_enter Try.func31, Try.ntmps31
      go_wp2_with (first | ((with_reducible refine gate_dst (N := 1) rfl ?_); refine box_event ?hg (N := 1) ?hd (cs := #[.int .i64 a0_0, .int .i64 a0_1, .int .i64 a0_2]) (t := 42) ?hr ?_; (case hd => rfl); (case hg => rfl); (case hr => first | (go_simp; done) | (go_simp; rfl)); intro gb101 hg w9 hbox hb; have n0_ := Aside0.mk (below_step (by repeat (first | (with_reducible first | exact HB.out | apply below_alloc | apply pw_below_drewN | apply below_drew1) | exact HB.out)) hb); have n1_ := Aside0.mk (hbox); have n2_ := Aside0.mk ((by rw [hg]; exact (below_size (by repeat (first | (with_reducible first | exact HB.out | apply below_alloc | apply pw_below_drewN | apply below_drew1) | exact HB.out))) : w.heap.size ≤ gb101)); have n3_ := Aside0.mk ((by rw [hg]; exact (below_size (by repeat (first | (with_reducible first | exact HB.out | apply below_alloc | apply pw_below_drewN | apply below_drew1) | exact HB.out))) : w.heap.size ≤ gb101)); clear HB; have HB := n0_; have BK101 := n1_; have GW101 := n2_; have GE101 := n3_; clear n0_ n1_ n2_ n3_; clear hb hbox hg; have hcz10_0 : w9.cell? ⟨gb101, 0, none⟩ = some (.int .i64 a0_0) := (blk_cell BK101.out 0).trans rfl; have hcz10_1 : w9.cell? ⟨gb101, 1, none⟩ = some (.int .i64 a0_1) := (blk_cell BK101.out 1).trans rfl; have hcz10_2 : w9.cell? ⟨gb101, 2, none⟩ = some (.int .i64 a0_2) := (blk_cell BK101.out 2).trans rfl; have hfz10_0 := blk_frozen BK101.out 0; have hfz10_1 := blk_frozen BK101.out 1; have hfz10_2 := blk_frozen BK101.out 2) | ((with_reducible refine gate_callee (f := 29) rfl ?_); refine goesL_ (some 5) rfl rfl Try.func29 (by kernel_rfl) rfl #[.int .i64 a0_0, .int .i64 50, .int .i64 500] rfl (by (try simp only [List.map_toArray, List.map_cons, List.map_nil]); first | done | rfl | (simp only [List.length_drop, List.length_take]; rfl)) ?_; (with_reducible refine (impl_in.calls a0_0 50 500 true _ A2.out).mono ?_); rintro e w' ⟨rfl, ⟨nd, rfl⟩⟩; refine ⟨_, rfl, ?_⟩) | (go_at_call 29; (with_reducible refine (impl_in.calls a0_1 1 100 false _ A4.out).mono ?_); rintro e w' ⟨rfl, ⟨nd, rfl⟩⟩))
      go_ret
      exact ⟨by first | rfl | (simp [errW_none, errW_some] <;> rfl) | (simp [*, errW_none, errW_some] <;> rfl), by repeat (first | (with_reducible first | exact HB.out | apply below_alloc | apply pw_below_drewN | apply below_drew1 | refine below_set ?_ GE101.out) | exact HB.out)⟩
  · replace c3 := Bool.eq_false_iff.mpr c3
    subst c3
    have H1 : (some true) = some r := by rw [if_neg (show ¬ (false = true) by decide)] at H; exact H
    clear H
    have H := H1
    clear H1
    obtain rfl := Option.some.inj H
    go_enter Try.func31, Try.ntmps31
    go_wp2_with (first | ((with_reducible refine gate_dst (N := 1) rfl ?_); refine box_event ?hg (N := 1) ?hd (cs := #[.int .i64 a0_0, .int .i64 a0_1, .int .i64 a0_2]) (t := 42) ?hr ?_; (case hd => rfl); (case hg => rfl); (case hr => first | (go_simp; done) | (go_simp; rfl)); intro gb101 hg w11 hbox hb; have n0_ := Aside0.mk (below_step (by repeat (first | (with_reducible first | exact HB.out | apply below_alloc | apply pw_below_drewN | apply below_drew1) | exact HB.out)) hb); have n1_ := Aside0.mk (hbox); have n2_ := Aside0.mk ((by rw [hg]; exact (below_size (by repeat (first | (with_reducible first | exact HB.out | apply below_alloc | apply pw_below_drewN | apply below_drew1) | exact HB.out))) : w.heap.size ≤ gb101)); have n3_ := Aside0.mk ((by rw [hg]; exact (below_size (by repeat (first | (with_reducible first | exact HB.out | apply below_alloc | apply pw_below_drewN | apply below_drew1) | exact HB.out))) : w.heap.size ≤ gb101)); clear HB; have HB := n0_; have BK101 := n1_; have GW101 := n2_; have GE101 := n3_; clear n0_ n1_ n2_ n3_; clear hb hbox hg; have hcz12_0 : w11.cell? ⟨gb101, 0, none⟩ = some (.int .i64 a0_0) := (blk_cell BK101.out 0).trans rfl; have hcz12_1 : w11.cell? ⟨gb101, 1, none⟩ = some (.int .i64 a0_1) := (blk_cell BK101.out 1).trans rfl; have hcz12_2 : w11.cell? ⟨gb101, 2, none⟩ = some (.int .i64 a0_2) := (blk_cell BK101.out 2).trans rfl; have hfz12_0 := blk_frozen BK101.out 0; have hfz12_1 := blk_frozen BK101.out 1; have hfz12_2 := blk_frozen BK101.out 2) | ((with_reducible refine gate_callee (f := 29) rfl ?_); refine goesL_ (some 5) rfl rfl Try.func29 (by kernel_rfl) rfl #[.int .i64 a0_0, .int .i64 50, .int .i64 500] rfl (by (try simp only [List.map_toArray, List.map_cons, List.map_nil]); first | done | rfl | (simp only [List.length_drop, List.length_take]; rfl)) ?_; (with_reducible refine (impl_in.calls a0_0 50 500 false _ A2.out).mono ?_); rintro e w' ⟨rfl, ⟨nd, rfl⟩⟩; refine ⟨_, rfl, ?_⟩))
    go_ret
    exact ⟨by first | rfl | (simp [errW_none, errW_some] <;> rfl) | (simp [*, errW_none, errW_some] <;> rfl), by repeat (first | (with_reducible first | exact HB.out | apply below_alloc | apply pw_below_drewN | apply below_drew1 | refine below_set ?_ GE101.out) | exact HB.out)⟩


/-! ### a predicate's first place -/
/-- A call of function f enters it: it has a body. -/
theorem enters_by {P : Program} {f : FuncId} {fn : Func} {c : Code} (hf : P.funcs[f]? = some fn) (hname : (fn.name == "runtime.NumGoroutine") = false) (hb : fn.body = some c) : ∀ (args : Array Value) (w : World), (callFunc f args).run P w = .ok (.enter f args) w := by
  intro args w
  have h1 : fn.name ≠ "runtime.NumGoroutine" := by simpa using hname
  simp [callFunc, hf, h1, hb, mark]
/-- The first place below n at which q holds, or -1. -/
def idxR (q : Nat → Bool) (n : Nat) : Int := if (List.range n).any q = true then ((List.range n).findIdx q : Int) else -1
theorem idxR_hit (q : Nat → Bool) (n k : Nat) (hk : k < n) (h : q k = true) (hb : ∀ j, j < k → q j = false) : idxR q n = k := by
  have ha : (List.range n).any q = true := List.any_eq_true.2 ⟨k, List.mem_range.2 hk, h⟩
  have hf : (List.range n).findIdx q = k := by
    rw [List.findIdx_eq (by simpa using hk)]
    refine ⟨by simpa using h, fun j hj => ?_⟩
    simpa using hb j hj
  unfold idxR
  rw [if_pos ha, hf]
theorem idxR_miss (q : Nat → Bool) (n : Nat) (hb : ∀ j, j < n → q j = false) : idxR q n = -1 := by
  have ha : ¬ (List.range n).any q = true := by
    rw [List.any_eq_true]
    rintro ⟨x, hx, hq⟩
    rw [hb x (List.mem_range.1 hx)] at hq
    exact absurd hq (by simp)
  unfold idxR
  rw [if_neg ha]
theorem idxR_any (q : Nat → Bool) (n : Nat) : decide (idxR q n ≥ 0) = (List.range n).any q := by
  unfold idxR
  cases (List.range n).any q with
  | true => simp
  | false => simp
/-! ### impl_Flour_42: function 42 -/
set_option maxHeartbeats 8000000 in
set_option maxRecDepth 100000 in
theorem impl_Flour_42.gen (g : Nat) (lb : Array Value) (eg : ∀ args w, (callFunc g args).run Try.prog w = .ok (.enter g args) w) (pr : Nat → Bool) (A : Option Addr) (c : Nat) (l : List (S42)) (w : World) (hr : Kd.C k42 w A l.length l) (hc : l.length ≤ c)
    (hp : ∀ (W : World) (x : Int), 0 ≤ x → x < (l.length : Int) → Below w.heap.size w W → Calls Try.prog g (#[.agg #[.int .i64 ((rd_T42 l x).f0), .int .i64 ((rd_T42 l x).f1), .int .i64 ((rd_T42 l x).f2)]] ++ lb) W fun e w' => e = .returned (.bool (pr x.toNat)) ∧ Below w.heap.size w w') :
    Calls Try.prog 42 #[.slice A l.length c, .func (.func g) #[] lb] w fun e w' => e = .returned (.int .i64 (idxR pr l.length)) ∧ Below w.heap.size w w' := by
  have hu42 := Try.underlying42
  have hlen : l.length ≤ 9223372036854775807 := hr.2.1
  have HR := Aside0.mk hr
  have HC := Aside0.mk hc
  have HP := Aside0.mk hp
  clear hr hc hp
  go_enter Try.func42, Try.ntmps42
  go_wp2
  go_loopg [5, 8] l.length (fun gg _ s8 wr => ∃ x : Int, s8 = .int .i64 x ∧ Aside0 (0 ≤ x ∧ x ≤ (l.length : Int) ∧ (l.length : Int) - x ≤ gg) ∧ Aside0 (∀ j : Nat, (j : Int) < x → pr j = false) ∧ Aside0 (Below w.heap.size w wr))
  case atStart => exact ⟨0, rfl, ⟨by omega⟩, ⟨fun j hj => by omega⟩, ⟨Below.refl _ w⟩⟩
  case round =>
    obtain ⟨x, rfl, HX, HA, HB⟩ := hrel
    by_cases hlt : x < (l.length : Int)
    · have p : 0 ≤ x := HX.out.1
      have q : x < (l.length : Int) := hlt
      obtain ⟨ad, e0, hx_0, hx_1, hx_2⟩ := at_T42 HR.out x p q
      cases e0
      replace hx_0 := (HB.out.cell (World.block_lt_of_cell? w _ hx_0)).trans hx_0
      replace hx_1 := (HB.out.cell (World.block_lt_of_cell? w _ hx_1)).trans hx_1
      replace hx_2 := (HB.out.cell (World.block_lt_of_cell? w _ hx_2)).trans hx_2
      have hcall := HP.out wr x p q HB.out
      have hlt0 : decide (x < (l.length : Int)) = true := decide_eq_true hlt
      have p0 := eq_true p
      have q0 := eq_true q
      clear hlt p q
      cases hq : pr x.toNat with
      | true =>
        rw [hq] at hcall
        have HQ := Aside0.mk hq
        clear hq
        have HCALL := Aside0.mk hcall
        clear hcall
        go_wp2_with fail
        with_reducible refine HCALL.out.mono ?_
        rintro e w' ⟨rfl, hb'⟩
        go_wp2
        go_ret
        have := HX.out
        refine ⟨?_, hb'⟩
        rw [idxR_hit pr l.length x.toNat (by have := of_eq_true q0; omega) HQ.out (fun j hj => HA.out j (by omega)), Int.toNat_of_nonneg (by omega)]
        rfl
      | false =>
        rw [hq] at hcall
        have HQ := Aside0.mk hq
        clear hq
        have hwr : wrap64 (x + 1) = x + 1 := by have := HX.out; have := of_eq_true q0; unfold wrap64; omega
        have HW := Aside0.mk hwr
        clear hwr
        have HCALL := Aside0.mk hcall
        clear hcall
        go_wp2_with fail
        with_reducible refine HCALL.out.mono ?_
        rintro e w' ⟨rfl, hb'⟩
        go_wp2
        go_roundg (((l.length : Int) - x).toNat - 1)
        case measure => have := HX.out; have := of_eq_true q0; omega
        case rel =>
          have := HX.out
          have := of_eq_true q0
          refine ⟨x + 1, by first | rfl | (rw [HW.out]) | simp [HW.out], ⟨by omega⟩, ⟨fun j hj => ?_⟩, ⟨hb'⟩⟩
          by_cases e : (j : Int) = x
          · have : j = x.toNat := by omega
            rw [this]; exact HQ.out
          · exact HA.out j (by omega)
    · have hlt0 : decide (x < (l.length : Int)) = false := decide_eq_false hlt
      clear hlt
      go_wp2
      go_ret
      have := HX.out
      have := of_decide_eq_false hlt0
      refine ⟨?_, HB.out⟩
      rw [idxR_miss pr l.length (fun j hj => HA.out j (by omega))]
      rfl

/-! ### impl_Flour_30: function 30 -/
set_option maxHeartbeats 8000000 in
set_option maxRecDepth 100000 in
theorem impl_Flour_30.gen (g : Nat) (lb : Array Value) (eg : ∀ args w, (callFunc g args).run Try.prog w = .ok (.enter g args) w) (pr : Nat → Bool) (A : Option Addr) (c : Nat) (l : List (S42)) (w : World) (hr : Kd.C k42 w A l.length l) (hc : l.length ≤ c)
    (hp : ∀ (W : World) (x : Int), 0 ≤ x → x < (l.length : Int) → Below w.heap.size w W → Calls Try.prog g (#[.agg #[.int .i64 ((rd_T42 l x).f0), .int .i64 ((rd_T42 l x).f1), .int .i64 ((rd_T42 l x).f2)]] ++ lb) W fun e w' => e = .returned (.bool (pr x.toNat)) ∧ Below w.heap.size w w') :
    Calls Try.prog 30 #[.slice A l.length c, .func (.func g) #[] lb] w fun e w' => e = .returned (.bool ((List.range l.length).any pr)) ∧ Below w.heap.size w w' := by
  have hcon := impl_Flour_42.gen g lb eg pr A c l w hr hc hp
  rw [← idxR_any pr l.length]
  generalize idxR pr l.length = ix at hcon ⊢
  have HCON := Aside0.mk hcon
  clear hcon hr hc hp eg
  go_enter Try.func30, Try.ntmps30
  go_wp2_with (go_at_call 42; refine HCON.out.mono ?_; rintro e w' ⟨rfl, hb'⟩)
  go_ret
  exact ⟨by first | rfl | (simp; done), hb'⟩
/-- The predicate that is handed to impl_Flour_30. -/
def impl_Flour_30.pred (x : S42) : Bool := decide (impl_FloursOk_1.f x.f0 x.f1 x.f2 = some true)
theorem impl_FloursOk_1.total (a0 : Int) (a1 : Int) (a2 : Int) : ∃ b, impl_FloursOk_1.f a0 a1 a2 = some b := by
  have hin : ∀ a b c, impl_in.f a b c = some (decide (b ≤ a) && decide (a ≤ c)) := fun a b c => by unfold impl_in.f; split <;> simp [*]
  simp only [impl_FloursOk_1.f, hin, Option.bind_some]
  repeat' split
  all_goals exact ⟨_, rfl⟩
theorem impl_Flour_30.pred_eq (x : S42) : impl_FloursOk_1.f x.f0 x.f1 x.f2 = some (impl_Flour_30.pred x) := by
  obtain ⟨b, hb⟩ := impl_FloursOk_1.total x.f0 x.f1 x.f2
  unfold impl_Flour_30.pred
  rw [hb]
  cases b <;> rfl
def impl_Flour_30.f (l0 : List (S42)) (_ : Value) : Option (Bool) := some (l0.any impl_Flour_30.pred)
theorem impl_Flour_30.calls (A0 : Option Addr) (c0 : Nat) (l0 : List (S42)) (a1 : Value) (r : Bool) (w : World) (hr0 : Kd.C k42 w A0 l0.length l0) (hc0 : l0.length ≤ c0) (h : impl_Flour_30.f l0 a1 = some r) :
    Calls Try.prog 30 #[.slice A0 l0.length c0, .func (.func 31) #[] #[]] w fun e w' => e = .returned (.bool r) ∧ Below w.heap.size w w' := by
  have hcon := impl_Flour_30.gen 31 #[] (enters_by Try.func31 (by kernel_rfl) rfl) (fun j => impl_Flour_30.pred (rd_T42 l0 j)) A0 c0 l0 w hr0 hc0 (fun W x p q hb => by
    have hx : ((x.toNat : Nat) : Int) = x := Int.toNat_of_nonneg p
    simp only [hx]
    exact (impl_FloursOk_1.calls (rd_T42 l0 x).f0 (rd_T42 l0 x).f1 (rd_T42 l0 x).f2 _ W (impl_Flour_30.pred_eq _)).mono fun e w' ⟨he, hd⟩ => ⟨he, hb.trans (hd.mono hb.size)⟩)
  have hall : (List.range l0.length).any (fun j => impl_Flour_30.pred (rd_T42 l0 j)) = r := by
    obtain rfl := Option.some.inj h
    rw [Bool.eq_iff_iff, List.any_eq_true, List.any_eq_true]
    constructor
    · rintro ⟨j, hj, hq⟩
      have hj' := List.mem_range.1 hj
      refine ⟨l0[j], List.getElem_mem hj', ?_⟩
      simpa [rd_T42, List.getD_eq_getElem?_getD, hj'] using hq
    · rintro ⟨x, hx, hq⟩
      obtain ⟨j, hj, rfl⟩ := List.mem_iff_getElem.1 hx
      refine ⟨j, List.mem_range.2 hj, ?_⟩
      simpa [rd_T42, List.getD_eq_getElem?_getD, hj] using hq
  rw [hall] at hcon
  exact hcon

end Go.Proofs.Ytkgpjndlpjjobaa.Q
