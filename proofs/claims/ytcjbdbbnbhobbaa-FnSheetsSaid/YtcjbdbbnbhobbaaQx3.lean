/- The functions that the seat's statements reach, as plain Lean functions, and that the program's calls answer what they say; no condition beyond the values read. Written by a program of this session's over the kit's print. -/
import Derived.Test.YtcjbdbbnbhobbaaQx0
import Derived.Test.YtcjbdbbnbhobbaaQx2
namespace Go.Proofs.Ytcjbdbbnbhobbaa.Q
open Go.RowKit Go.Proofs.YtcjbdbbnbhobbaaW.PrintWords Go.Proofs.YtcjbdbbnbhobbaaW.PrintLast Go.Proofs.YtcjbdbbnbhobbaaW.PrintMore
attribute [local go_sem] max2_int min2_int max_two min_two max_three min_three max_four min_four   -- for this text's walks alone
set_option linter.unusedVariables false
set_option linter.unusedSimpArgs false


/-! ### a predicate's first place -/
/-- A call of function f enters it: it has a body. -/
theorem enters_by {P : Program} {f : FuncId} {fn : Func} {c : Code} (hf : P.funcs[f]? = some fn) (hname : (fn.name == "runtime.NumGoroutine") = false) (hb : fn.body = some c) : ∀ (args : Array Value) (w : World), (callFunc f args).run P w = .ok (.enter f args) w := by
  intro args w
  have h1 : fn.name ≠ "runtime.NumGoroutine" := by simpa using hname
  simp [callFunc, hf, h1, hb, mark]
/-- The first place below n at which q holds, or -1. -/
def idxR (q : Nat → Bool) (n : Nat) : Int := if (List.range n).any q = true then ((List.range n).findIdx q : Int) else -1
theorem idxR_hit (q : Nat → Bool) (n k : Nat) (hk : k < n) (h : q k = true) (hb : ∀ j, j < k → q j = false) : idxR q n = k := by
  have ha : (List.range n).any q = true := List.any_eq_true.2 ⟨k, List.mem_range.2 hk, h⟩
  have hf : (List.range n).findIdx q = k := by
    rw [List.findIdx_eq (by simpa using hk)]
    refine ⟨by simpa using h, fun j hj => ?_⟩
    simpa using hb j hj
  unfold idxR
  rw [if_pos ha, hf]
theorem idxR_miss (q : Nat → Bool) (n : Nat) (hb : ∀ j, j < n → q j = false) : idxR q n = -1 := by
  have ha : ¬ (List.range n).any q = true := by
    rw [List.any_eq_true]
    rintro ⟨x, hx, hq⟩
    rw [hb x (List.mem_range.1 hx)] at hq
    exact absurd hq (by simp)
  unfold idxR
  rw [if_neg ha]
theorem idxR_any (q : Nat → Bool) (n : Nat) : decide (idxR q n ≥ 0) = (List.range n).any q := by
  unfold idxR
  cases (List.range n).any q with
  | true => simp
  | false => simp
/-! ### slices_IndexFunc_int_int: function 38 -/
set_option maxHeartbeats 8000000 in
set_option maxRecDepth 100000 in
theorem slices_IndexFunc_int_int.gen (g : Nat) (lb : Array Value) (eg : ∀ args w, (callFunc g args).run Try.prog w = .ok (.enter g args) w) (pr : Nat → Bool) (A : Option Addr) (c : Nat) (l : List (Int)) (w : World) (hr : Kd.C (Kd.int .i64) w A l.length l) (hc : l.length ≤ c)
    (hp : ∀ (W : World) (x : Int), 0 ≤ x → x < (l.length : Int) → Below w.heap.size w W → Calls Try.prog g (#[.int .i64 (rd l x)] ++ lb) W fun e w' => e = .returned (.bool (pr x.toNat)) ∧ Below w.heap.size w w') :
    Calls Try.prog 38 #[.slice A l.length c, .func (.func g) #[] lb] w fun e w' => e = .returned (.int .i64 (idxR pr l.length)) ∧ Below w.heap.size w w' := by
  have hlen : l.length ≤ 9223372036854775807 := hr.2.1
  have HR := Aside0.mk hr
  have HC := Aside0.mk hc
  have HP := Aside0.mk hp
  clear hr hc hp
  go_enter Try.func38, Try.ntmps38
  go_wp2
  go_loopg [5, 8] l.length (fun gg _ s8 wr => ∃ x : Int, s8 = .int .i64 x ∧ Aside0 (0 ≤ x ∧ x ≤ (l.length : Int) ∧ (l.length : Int) - x ≤ gg) ∧ Aside0 (∀ j : Nat, (j : Int) < x → pr j = false) ∧ Aside0 (Below w.heap.size w wr))
  case atStart => exact ⟨0, rfl, ⟨by omega⟩, ⟨fun j hj => by omega⟩, ⟨Below.refl _ w⟩⟩
  case round =>
    obtain ⟨x, rfl, HX, HA, HB⟩ := hrel
    by_cases hlt : x < (l.length : Int)
    · have p : 0 ≤ x := HX.out.1
      have q : x < (l.length : Int) := hlt
      obtain ⟨ad, e0, hx_0⟩ := Kd.at_int HR.out x p q
      cases e0
      replace hx_0 := (HB.out.cell (World.block_lt_of_cell? w _ hx_0)).trans hx_0
      have hcall := HP.out wr x p q HB.out
      have hlt0 : decide (x < (l.length : Int)) = true := decide_eq_true hlt
      have p0 := eq_true p
      have q0 := eq_true q
      clear hlt p q
      cases hq : pr x.toNat with
      | true =>
        rw [hq] at hcall
        have HQ := Aside0.mk hq
        clear hq
        have HCALL := Aside0.mk hcall
        clear hcall
        go_wp2_with fail
        with_reducible refine HCALL.out.mono ?_
        rintro e w' ⟨rfl, hb'⟩
        go_wp2
        go_ret
        have := HX.out
        refine ⟨?_, hb'⟩
        rw [idxR_hit pr l.length x.toNat (by have := of_eq_true q0; omega) HQ.out (fun j hj => HA.out j (by omega)), Int.toNat_of_nonneg (by omega)]
        rfl
      | false =>
        rw [hq] at hcall
        have HQ := Aside0.mk hq
        clear hq
        have hwr : wrap64 (x + 1) = x + 1 := by have := HX.out; have := of_eq_true q0; unfold wrap64; omega
        have HW := Aside0.mk hwr
        clear hwr
        have HCALL := Aside0.mk hcall
        clear hcall
        go_wp2_with fail
        with_reducible refine HCALL.out.mono ?_
        rintro e w' ⟨rfl, hb'⟩
        go_wp2
        go_roundg (((l.length : Int) - x).toNat - 1)
        case measure => have := HX.out; have := of_eq_true q0; omega
        case rel =>
          have := HX.out
          have := of_eq_true q0
          refine ⟨x + 1, by first | rfl | (rw [HW.out]) | simp [HW.out], ⟨by omega⟩, ⟨fun j hj => ?_⟩, ⟨hb'⟩⟩
          by_cases e : (j : Int) = x
          · have : j = x.toNat := by omega
            rw [this]; exact HQ.out
          · exact HA.out j (by omega)
    · have hlt0 : decide (x < (l.length : Int)) = false := decide_eq_false hlt
      clear hlt
      go_wp2
      go_ret
      have := HX.out
      have := of_decide_eq_false hlt0
      refine ⟨?_, HB.out⟩
      rw [idxR_miss pr l.length (fun j hj => HA.out j (by omega))]
      rfl
/-- The predicate that is handed to slices_IndexFunc_int_int in impl.StripsUsed: the captured lengths and place come as a pair. -/
def slices_IndexFunc_int_int.f (l0 : List Int) (a1 : List Int × Int) : Option (Int) := if 0 ≤ a1.2 then (if a1.2 < (a1.1.length : Int) then (some (idxR (fun j => decide (rd l0 j ≥ rd a1.1 a1.2)) l0.length)) else (none)) else (none)
set_option maxHeartbeats 8000000 in
set_option maxRecDepth 100000 in
theorem slices_IndexFunc_int_int.lit (x i : Int) (ls : List Int) (A : Option Addr) (c : Nat) (g1 g2 : Nat) (w : World) (hi0 : 0 ≤ i) (hi1 : i < (ls.length : Int)) (hr : Kd.C (Kd.int .i64) w A ls.length ls) (h1 : w.cell? ⟨g1, 0, none⟩ = some (.slice A ls.length c)) (h2 : w.cell? ⟨g2, 0, none⟩ = some (.int .i64 i)) :
    Calls Try.prog 39 #[.int .i64 x, .pointer (some ⟨g1, 0, none⟩), .pointer (some ⟨g2, 0, none⟩)] w fun e w' => e = .returned (.bool (decide (x ≥ rd ls i))) ∧ Drawn0 w w' := by
  obtain ⟨ad, e0, hx⟩ := Kd.at_int hr i hi0 hi1
  cases e0
  have p0 := eq_true hi0
  have q0 := eq_true hi1
  clear hi0 hi1 hr
  go_enter Try.func39, Try.ntmps39
  go_wp2
  go_ret
  exact ⟨by first | rfl | (simp; done) | (simp [*]; done), by repeat (first | exact Drawn0.refl _ | apply Drawn0.step)⟩
theorem slices_IndexFunc_int_int.callsB {A : Option Addr} {c : Nat} {g1 g2 : Nat} {t1 t2 : TypeId} (A0 : Option Addr) (c0 : Nat) (l0 : List Int) (a1 : List Int × Int) (r : Int) (w : World) (b1 : w.heap[g1]? = some (.cells #[.slice A a1.1.length c] t1 (0, 0))) (b2 : w.heap[g2]? = some (.cells #[.int .i64 a1.2] t2 (0, 0))) (hr : Kd.C (Kd.int .i64) w A a1.1.length a1.1) (hr0 : Kd.C (Kd.int .i64) w A0 l0.length l0) (hc0 : l0.length ≤ c0) (h : slices_IndexFunc_int_int.f l0 a1 = some r) :
    Calls Try.prog 38 #[.slice A0 l0.length c0, .func (.func 39) #[] #[.pointer (some ⟨g1, 0, none⟩), .pointer (some ⟨g2, 0, none⟩)]] w fun e w' => e = .returned (.int .i64 r) ∧ Below w.heap.size w w' := by
  unfold slices_IndexFunc_int_int.f at h
  by_cases hi0 : 0 ≤ a1.2
  · rw [if_pos hi0] at h
    by_cases hi1 : a1.2 < (a1.1.length : Int)
    · rw [if_pos hi1] at h
      obtain rfl := Option.some.inj h
      have c1 : w.cell? ⟨g1, 0, none⟩ = some (.slice A a1.1.length c) := (blk_cell b1 0).trans rfl
      have c2 : w.cell? ⟨g2, 0, none⟩ = some (.int .i64 a1.2) := (blk_cell b2 0).trans rfl
      refine slices_IndexFunc_int_int.gen 39 #[.pointer (some ⟨g1, 0, none⟩), .pointer (some ⟨g2, 0, none⟩)] (enters_by Try.func39 (by kernel_rfl) rfl) (fun j => decide (rd l0 j ≥ rd a1.1 a1.2)) A0 c0 l0 w hr0 hc0 (fun W x p q hb => ?_)
      have hx : ((x.toNat : Nat) : Int) = x := Int.toNat_of_nonneg p
      simp only [hx]
      exact (slices_IndexFunc_int_int.lit (rd l0 x) a1.2 a1.1 A c g1 g2 W hi0 hi1 (Kd.C_below hr hb) ((hb.cell (World.block_lt_of_cell? w _ c1)).trans c1) ((hb.cell (World.block_lt_of_cell? w _ c2)).trans c2)).mono fun e w' ⟨he, hd⟩ => ⟨he, hb.trans (hd.below.mono hb.size)⟩
    · rw [if_neg hi1] at h
      exact absurd h (by simp)
  · rw [if_neg hi0] at h
    exact absurd h (by simp)

/-! ### slices_ContainsFunc_int_int: function 43 -/
set_option maxHeartbeats 8000000 in
set_option maxRecDepth 100000 in
theorem slices_ContainsFunc_int_int.gen (g : Nat) (lb : Array Value) (eg : ∀ args w, (callFunc g args).run Try.prog w = .ok (.enter g args) w) (pr : Nat → Bool) (A : Option Addr) (c : Nat) (l : List (Int)) (w : World) (hr : Kd.C (Kd.int .i64) w A l.length l) (hc : l.length ≤ c)
    (hp : ∀ (W : World) (x : Int), 0 ≤ x → x < (l.length : Int) → Below w.heap.size w W → Calls Try.prog g (#[.int .i64 (rd l x)] ++ lb) W fun e w' => e = .returned (.bool (pr x.toNat)) ∧ Below w.heap.size w w') :
    Calls Try.prog 43 #[.slice A l.length c, .func (.func g) #[] lb] w fun e w' => e = .returned (.bool ((List.range l.length).any pr)) ∧ Below w.heap.size w w' := by
  have hcon := slices_IndexFunc_int_int.gen g lb eg pr A c l w hr hc hp
  rw [← idxR_any pr l.length]
  generalize idxR pr l.length = ix at hcon ⊢
  have HCON := Aside0.mk hcon
  clear hcon hr hc hp eg
  go_enter Try.func43, Try.ntmps43
  go_wp2_with (go_at_call 38; refine HCON.out.mono ?_; rintro e w' ⟨rfl, hb'⟩)
  go_ret
  exact ⟨by first | rfl | (simp; done), hb'⟩

/-! ### impl_allIn: function 31 -/
def impl_allIn.f (l0 : List Int) (a1 : Int) (a2 : Int) : Option (Bool) := some (l0.all fun n => decide (a1 ≤ n) && decide (n ≤ a2))
set_option maxHeartbeats 8000000 in
set_option maxRecDepth 100000 in
theorem impl_allIn.lit (x lo hi : Int) (g1 g2 : Nat) (w : World) (h1 : w.cell? ⟨g1, 0, none⟩ = some (.int .i64 lo)) (h2 : w.cell? ⟨g2, 0, none⟩ = some (.int .i64 hi)) :
    Calls Try.prog 44 #[.int .i64 x, .pointer (some ⟨g1, 0, none⟩), .pointer (some ⟨g2, 0, none⟩)] w fun e w' => e = .returned (.bool (!(decide (lo ≤ x) && decide (x ≤ hi)))) ∧ Drawn0 w w' := by
  have hin : impl_in.f x lo hi = some (decide (lo ≤ x) && decide (x ≤ hi)) := by unfold impl_in.f; split <;> simp [*]
  generalize (decide (lo ≤ x) && decide (x ≤ hi)) = r at hin ⊢
  have HI := Aside0.mk hin
  clear hin
  go_enter Try.func44, Try.ntmps44
  go_wp2_with (go_at_call 30; (with_reducible refine (impl_in.calls x lo hi r _ HI.out).mono ?_); rintro e w' ⟨rfl, ⟨nd, rfl⟩⟩)
  go_ret
  exact ⟨by first | rfl | (simp; done) | (simp [*]; done), by repeat (first | exact Drawn0.refl _ | apply Drawn0.step)⟩
set_option maxHeartbeats 8000000 in
set_option maxRecDepth 100000 in
theorem impl_allIn.calls (A0 : Option Addr) (c0 : Nat) (l0 : List Int) (a1 : Int) (a2 : Int) (r : Bool) (w : World) (hr0 : Kd.C (Kd.int .i64) w A0 l0.length l0) (hc0 : l0.length ≤ c0) (h : impl_allIn.f l0 a1 a2 = some r) :
    Calls Try.prog 31 #[.slice A0 l0.length c0, .int .i64 a1, .int .i64 a2] w fun e w' => e = .returned (.bool r) ∧ Below w.heap.size w w' := by
  have hb0 : Below w.heap.size w ((w.alloc (.cells #[.int .i64 a1] 3)).alloc (.cells #[.int .i64 a2] 3)) := ((Below.refl _ w).alloc (Nat.le_refl _) _).alloc (by simp) _
  have hcon := slices_ContainsFunc_int_int.gen 44 #[.pointer (some ⟨w.heap.size, 0, none⟩), .pointer (some ⟨w.heap.size + 1, 0, none⟩)] (enters_by Try.func44 (by kernel_rfl) rfl) (fun j => !(decide (a1 ≤ rd l0 j) && decide (rd l0 j ≤ a2))) A0 c0 l0
    ((w.alloc (.cells #[.int .i64 a1] 3)).alloc (.cells #[.int .i64 a2] 3)) (Kd.C_below hr0 hb0) hc0 (fun W x p q hb => by
      have h1 : W.cell? ⟨w.heap.size, 0, none⟩ = some (.int .i64 a1) := (hb.cell (p := ⟨w.heap.size, 0, none⟩) (by simp; omega)).trans (by simp)
      have h2 : W.cell? ⟨w.heap.size + 1, 0, none⟩ = some (.int .i64 a2) := (hb.cell (p := ⟨w.heap.size + 1, 0, none⟩) (by simp)).trans (by simp)
      have hx : ((x.toNat : Nat) : Int) = x := Int.toNat_of_nonneg p
      simp only [hx]
      exact (impl_allIn.lit (rd l0 x) a1 a2 w.heap.size (w.heap.size + 1) W h1 h2).mono fun e w' ⟨he, hd⟩ => ⟨he, hb.trans (hd.below.mono hb.size)⟩)
  have hall : (List.range l0.length).any (fun j => !(decide (a1 ≤ rd l0 j) && decide (rd l0 j ≤ a2))) = !r := by
    obtain rfl := Option.some.inj h
    rw [Bool.eq_iff_iff, List.any_eq_true]
    constructor
    · rintro ⟨j, hj, hq⟩
      have hj' := List.mem_range.1 hj
      simp only [Bool.not_eq_true', List.all_eq_false]
      have e : rd l0 j = l0[j] := by simp [rd, List.getD_eq_getElem?_getD, hj']
      rw [e] at hq
      refine ⟨l0[j], List.getElem_mem hj', fun hc => ?_⟩
      rw [hc] at hq
      exact absurd hq (by simp)
    · intro hq
      simp only [Bool.not_eq_true', List.all_eq_false] at hq
      obtain ⟨x, hx, hq⟩ := hq
      obtain ⟨j, hj, rfl⟩ := List.mem_iff_getElem.1 hx
      have e : rd l0 j = l0[j] := by simp [rd, List.getD_eq_getElem?_getD, hj]
      refine ⟨j, List.mem_range.2 hj, ?_⟩
      rw [e]
      rw [Bool.eq_false_iff.2 hq]
      rfl
  rw [hall] at hcon
  have HCON := Aside0.mk hcon
  have HB0 := Aside0.mk hb0
  clear hcon hr0 hc0 h hall hb0
  go_enter Try.func31, Try.ntmps31
  go_wp2_with (go_at_call 43; refine HCON.out.mono ?_; rintro e w' ⟨rfl, hb'⟩)
  go_ret
  exact ⟨by first | rfl | (simp; done) | (cases r <;> rfl), HB0.out.trans (hb'.mono HB0.out.size)⟩

end Go.Proofs.Ytcjbdbbnbhobbaa.Q
