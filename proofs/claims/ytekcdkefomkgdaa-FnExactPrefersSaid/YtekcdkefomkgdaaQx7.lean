/- The functions that the seat's statements reach, as plain Lean functions, and that the program's calls answer what they say; no condition beyond the values read. Written by a program of this session's over the kit's print. -/
import Derived.Test.YtekcdkefomkgdaaQx0
namespace Go.Proofs.Ytekcdkefomkgdaa.Q
open Go.RowKit Go.Proofs.YtekcdkefomkgdaaW.PrintWords Go.Proofs.YtekcdkefomkgdaaW.PrintLast Go.Proofs.YtekcdkefomkgdaaW.PrintMore
attribute [local go_sem] max2_int min2_int max_two min_two max_three min_three max_four min_four   -- for this text's walks alone
set_option linter.unusedVariables false
set_option linter.unusedSimpArgs false

-- NOT PRINTED: function 30 (impl_VotesOk_1)


/-! ### a predicate's first place -/
/-- A call of function f enters it: it has a body. -/
theorem enters_by {P : Program} {f : FuncId} {fn : Func} {c : Code} (hf : P.funcs[f]? = some fn) (hname : (fn.name == "runtime.NumGoroutine") = false) (hb : fn.body = some c) : ∀ (args : Array Value) (w : World), (callFunc f args).run P w = .ok (.enter f args) w := by
  intro args w
  have h1 : fn.name ≠ "runtime.NumGoroutine" := by simpa using hname
  simp [callFunc, hf, h1, hb, mark]
/-- The first place below n at which q holds, or -1. -/
def idxR (q : Nat → Bool) (n : Nat) : Int := if (List.range n).any q = true then ((List.range n).findIdx q : Int) else -1
theorem idxR_hit (q : Nat → Bool) (n k : Nat) (hk : k < n) (h : q k = true) (hb : ∀ j, j < k → q j = false) : idxR q n = k := by
  have ha : (List.range n).any q = true := List.any_eq_true.2 ⟨k, List.mem_range.2 hk, h⟩
  have hf : (List.range n).findIdx q = k := by
    rw [List.findIdx_eq (by simpa using hk)]
    refine ⟨by simpa using h, fun j hj => ?_⟩
    simpa using hb j hj
  unfold idxR
  rw [if_pos ha, hf]
theorem idxR_miss (q : Nat → Bool) (n : Nat) (hb : ∀ j, j < n → q j = false) : idxR q n = -1 := by
  have ha : ¬ (List.range n).any q = true := by
    rw [List.any_eq_true]
    rintro ⟨x, hx, hq⟩
    rw [hb x (List.mem_range.1 hx)] at hq
    exact absurd hq (by simp)
  unfold idxR
  rw [if_neg ha]
theorem idxR_any (q : Nat → Bool) (n : Nat) : decide (idxR q n ≥ 0) = (List.range n).any q := by
  unfold idxR
  cases (List.range n).any q with
  | true => simp
  | false => simp
/-! ### slices_IndexFunc_int_int_43: function 43 -/
set_option maxHeartbeats 8000000 in
set_option maxRecDepth 100000 in
theorem slices_IndexFunc_int_int_43.gen (g : Nat) (lb : Array Value) (eg : ∀ args w, (callFunc g args).run Try.prog w = .ok (.enter g args) w) (pr : Nat → Bool) (A : Option Addr) (c : Nat) (l : List (List Int)) (w : World) (hr : Kd.C (Kd.slice 3 (Kd.int .i64)) w A l.length l) (hc : l.length ≤ c)
    (hp : ∀ (W : World) (x : Int) (A0_ : Option Addr) (c0_ : Nat), 0 ≤ x → x < (l.length : Int) → Below w.heap.size w W → Kd.C (Kd.int .i64) W A0_ (rd_L1 l x).length (rd_L1 l x) → (rd_L1 l x).length ≤ c0_ → Calls Try.prog g (#[.slice A0_ (rd_L1 l x).length c0_] ++ lb) W fun e w' => e = .returned (.bool (pr x.toNat)) ∧ Below w.heap.size w w') :
    Calls Try.prog 43 #[.slice A l.length c, .func (.func g) #[] lb] w fun e w' => e = .returned (.int .i64 (idxR pr l.length)) ∧ Below w.heap.size w w' := by
  have hlen : l.length ≤ 9223372036854775807 := hr.2.1
  have HR := Aside0.mk hr
  have HC := Aside0.mk hc
  have HP := Aside0.mk hp
  clear hr hc hp
  go_enter Try.func43, Try.ntmps43
  go_wp2
  go_loopg [5, 8] l.length (fun gg _ s8 wr => ∃ x : Int, s8 = .int .i64 x ∧ Aside0 (0 ≤ x ∧ x ≤ (l.length : Int) ∧ (l.length : Int) - x ≤ gg) ∧ Aside0 (∀ j : Nat, (j : Int) < x → pr j = false) ∧ Aside0 (Below w.heap.size w wr))
  case atStart => exact ⟨0, rfl, ⟨by omega⟩, ⟨fun j hj => by omega⟩, ⟨Below.refl _ w⟩⟩
  case round =>
    obtain ⟨x, rfl, HX, HA, HB⟩ := hrel
    by_cases hlt : x < (l.length : Int)
    · have p : 0 ≤ x := HX.out.1
      have q : x < (l.length : Int) := hlt
      obtain ⟨ad, A0_, c0_, e0, hx_0, hl_0, hi_0⟩ := at_L1 HR.out x p q
      cases e0
      replace hx_0 := (HB.out.cell (World.block_lt_of_cell? w _ hx_0)).trans hx_0
      have hcall := HP.out wr x A0_ c0_ p q HB.out (Kd.C_below hi_0 HB.out) hl_0
      clear hi_0 hl_0
      have hlt0 : decide (x < (l.length : Int)) = true := decide_eq_true hlt
      have p0 := eq_true p
      have q0 := eq_true q
      clear hlt p q
      cases hq : pr x.toNat with
      | true =>
        rw [hq] at hcall
        have HQ := Aside0.mk hq
        clear hq
        have HCALL := Aside0.mk hcall
        clear hcall
        go_wp2_with fail
        with_reducible refine HCALL.out.mono ?_
        rintro e w' ⟨rfl, hb'⟩
        go_wp2
        go_ret
        have := HX.out
        refine ⟨?_, hb'⟩
        rw [idxR_hit pr l.length x.toNat (by have := of_eq_true q0; omega) HQ.out (fun j hj => HA.out j (by omega)), Int.toNat_of_nonneg (by omega)]
        rfl
      | false =>
        rw [hq] at hcall
        have HQ := Aside0.mk hq
        clear hq
        have hwr : wrap64 (x + 1) = x + 1 := by have := HX.out; have := of_eq_true q0; unfold wrap64; omega
        have HW := Aside0.mk hwr
        clear hwr
        have HCALL := Aside0.mk hcall
        clear hcall
        go_wp2_with fail
        with_reducible refine HCALL.out.mono ?_
        rintro e w' ⟨rfl, hb'⟩
        go_wp2
        go_roundg (((l.length : Int) - x).toNat - 1)
        case measure => have := HX.out; have := of_eq_true q0; omega
        case rel =>
          have := HX.out
          have := of_eq_true q0
          refine ⟨x + 1, by first | rfl | (rw [HW.out]) | simp [HW.out], ⟨by omega⟩, ⟨fun j hj => ?_⟩, ⟨hb'⟩⟩
          by_cases e : (j : Int) = x
          · have : j = x.toNat := by omega
            rw [this]; exact HQ.out
          · exact HA.out j (by omega)
    · have hlt0 : decide (x < (l.length : Int)) = false := decide_eq_false hlt
      clear hlt
      go_wp2
      go_ret
      have := HX.out
      have := of_decide_eq_false hlt0
      refine ⟨?_, HB.out⟩
      rw [idxR_miss pr l.length (fun j hj => HA.out j (by omega))]
      rfl

/-! ### slices_ContainsFunc_int_int_29: function 29 -/
set_option maxHeartbeats 8000000 in
set_option maxRecDepth 100000 in
theorem slices_ContainsFunc_int_int_29.gen (g : Nat) (lb : Array Value) (eg : ∀ args w, (callFunc g args).run Try.prog w = .ok (.enter g args) w) (pr : Nat → Bool) (A : Option Addr) (c : Nat) (l : List (List Int)) (w : World) (hr : Kd.C (Kd.slice 3 (Kd.int .i64)) w A l.length l) (hc : l.length ≤ c)
    (hp : ∀ (W : World) (x : Int) (A0_ : Option Addr) (c0_ : Nat), 0 ≤ x → x < (l.length : Int) → Below w.heap.size w W → Kd.C (Kd.int .i64) W A0_ (rd_L1 l x).length (rd_L1 l x) → (rd_L1 l x).length ≤ c0_ → Calls Try.prog g (#[.slice A0_ (rd_L1 l x).length c0_] ++ lb) W fun e w' => e = .returned (.bool (pr x.toNat)) ∧ Below w.heap.size w w') :
    Calls Try.prog 29 #[.slice A l.length c, .func (.func g) #[] lb] w fun e w' => e = .returned (.bool ((List.range l.length).any pr)) ∧ Below w.heap.size w w' := by
  have hcon := slices_IndexFunc_int_int_43.gen g lb eg pr A c l w hr hc hp
  rw [← idxR_any pr l.length]
  generalize idxR pr l.length = ix at hcon ⊢
  have HCON := Aside0.mk hcon
  clear hcon hr hc hp eg
  go_enter Try.func29, Try.ntmps29
  go_wp2_with (go_at_call 43; refine HCON.out.mono ?_; rintro e w' ⟨rfl, hb'⟩)
  go_ret
  exact ⟨by first | rfl | (simp; done), hb'⟩

end Go.Proofs.Ytekcdkefomkgdaa.Q
