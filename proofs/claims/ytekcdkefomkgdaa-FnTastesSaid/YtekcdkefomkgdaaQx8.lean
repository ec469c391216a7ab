/- The functions that the seat's statements reach, as plain Lean functions, and that the program's calls answer what they say; no condition beyond the values read. Written by a program of this session's over the kit's print. -/
import Derived.Test.YtekcdkefomkgdaaQx0
import Derived.Test.YtekcdkefomkgdaaQx4
import Derived.Test.YtekcdkefomkgdaaQx6
import Derived.Test.YtekcdkefomkgdaaQx7
namespace Go.Proofs.Ytekcdkefomkgdaa.Q
open Go.RowKit Go.Proofs.YtekcdkefomkgdaaW.PrintWords Go.Proofs.YtekcdkefomkgdaaW.PrintLast Go.Proofs.YtekcdkefomkgdaaW.PrintMore
attribute [local go_sem] max2_int min2_int max_two min_two max_three min_three max_four min_four   -- for this text's walks alone
set_option linter.unusedVariables false
set_option linter.unusedSimpArgs false

/-! ### impl_VotesOk: function 10 -/
def impl_VotesOk.all (k : Nat) (l : List (List Int)) (a : Int) : Option (Bool) := if l.all (fun v => (impl_isOrder.f k v a).isSome) = true then some (l.all fun v => decide (impl_isOrder.f k v a = some true)) else none
theorem impl_VotesOk.all_mono (k : Nat) (l : List (List Int)) (a : Int) : LeO (impl_VotesOk.all k l a) (impl_VotesOk.all (k + 1) l a) := by
  intro r h
  unfold impl_VotesOk.all at h ⊢
  by_cases c : l.all (fun v => (impl_isOrder.f k v a).isSome) = true
  · rw [if_pos c] at h
    have c' := List.all_eq_true.1 c
    have e : ∀ v ∈ l, impl_isOrder.f (k + 1) v a = impl_isOrder.f k v a := by
      intro v hv
      obtain ⟨b, hb⟩ := Option.isSome_iff_exists.1 (c' v hv)
      rw [hb]
      exact impl_isOrder.mono v a k b hb
    have c2 : l.all (fun v => (impl_isOrder.f (k + 1) v a).isSome) = true := by
      rw [List.all_eq_true]
      intro v hv
      rw [e v hv]
      exact c' v hv
    rw [if_pos c2, ← h]
    congr 1
    rw [Bool.eq_iff_iff, List.all_eq_true, List.all_eq_true]
    constructor
    · intro hh v hv
      rw [← e v hv]
      exact hh v hv
    · intro hh v hv
      rw [e v hv]
      exact hh v hv
  · rw [if_neg c] at h
    exact absurd h (by simp)
def impl_VotesOk.f (k : Nat) (l0 : List (List Int)) (a1 : Int) : Option (Bool) := (impl_in.f a1 1 6).bind fun t1 => (if t1 = true then ((impl_in.f (l0.length : Int) 1 15).bind fun t2 => (if t2 = true then (impl_VotesOk.all k l0 a1) else (some false))) else (some false))
theorem impl_VotesOk.mono : ∀ a0 a1 k, LeO (impl_VotesOk.f k a0 a1) (impl_VotesOk.f (k + 1) a0 a1) := by
  intro a0 a1 k
  unfold impl_VotesOk.f
  refine LeO.bind (LeO.refl _) (fun _ => ?_)
  refine LeO.ite ?_ (LeO.refl _)
  refine LeO.bind (LeO.refl _) (fun _ => ?_)
  exact LeO.ite (impl_VotesOk.all_mono _ _ _) (LeO.refl _)
set_option maxHeartbeats 8000000 in
set_option maxRecDepth 100000 in
theorem impl_VotesOk.lit (k : Nat) (A : Option Addr) (c : Nat) (v : List Int) (n : Int) (b : Bool) (g : Nat) (w : World) (hr : Kd.C (Kd.int .i64) w A v.length v) (hc : v.length ≤ c) (h1 : w.cell? ⟨g, 0, none⟩ = some (.int .i64 n)) (h : impl_isOrder.f k v n = some b) :
    Calls Try.prog 30 #[.slice A v.length c, .pointer (some ⟨g, 0, none⟩)] w fun e w' => e = .returned (.bool (!b)) ∧ Drawn0 w w' := by
  have HH := Aside0.mk h
  have HR := Aside0.mk hr
  have HC := Aside0.mk hc
  clear h hr hc
  go_enter Try.func30, Try.ntmps30
  go_wp2_with (go_at_call 31; (with_reducible refine (impl_isOrder.calls k _ _ v n b _ ?side1 ?side2 HH.out).mono ?_); (case side1 => repeat (first | exact HR.out | (with_reducible refine Kd.C_alloc ?_ _) | (with_reducible refine Kd.C_drewN ?_ _) | (with_reducible refine Kd.C_drew ?_))); (case side2 => exact HC.out); rintro e w' ⟨rfl, ⟨nd, rfl⟩⟩)
  go_ret
  exact ⟨by first | rfl | (simp; done) | (simp [*]; done), by repeat (first | exact Drawn0.refl _ | apply Drawn0.step)⟩
theorem impl_VotesOk.con (k : Nat) (A0 : Option Addr) (c0 : Nat) (l0 : List (List Int)) (a1 : Int) (r : Bool) (w : World) (hr0 : Kd.C (Kd.slice 3 (Kd.int .i64)) w A0 l0.length l0) (hc0 : l0.length ≤ c0) (h : impl_VotesOk.all k l0 a1 = some r) (W : World) (hW : Below (w.alloc (.cells #[.int .i64 a1] 3)).heap.size (w.alloc (.cells #[.int .i64 a1] 3)) W) :
    Calls Try.prog 29 #[.slice A0 l0.length c0, .func (.func 30) #[] #[.pointer (some ⟨w.heap.size, 0, none⟩)]] W fun e w' => e = .returned (.bool (!r)) ∧ Below W.heap.size W w' := by
  have hall : l0.all (fun v => (impl_isOrder.f k v a1).isSome) = true := by
    unfold impl_VotesOk.all at h
    by_cases c : l0.all (fun v => (impl_isOrder.f k v a1).isSome) = true
    · exact c
    · rw [if_neg c] at h
      exact absurd h (by simp)
  have hr : l0.all (fun v => decide (impl_isOrder.f k v a1 = some true)) = r := by
    unfold impl_VotesOk.all at h
    rw [if_pos hall] at h
    exact Option.some.inj h
  have hwW : Below w.heap.size w W := ((Below.refl _ w).alloc (Nat.le_refl _) _).trans (hW.mono (by simp))
  have hcon := slices_ContainsFunc_int_int_29.gen 30 #[.pointer (some ⟨w.heap.size, 0, none⟩)] (enters_by Try.func30 (by kernel_rfl) rfl) (fun j => !(decide (impl_isOrder.f k (rd_L1 l0 j) a1 = some true))) A0 c0 l0 W (Kd.C_below hr0 hwW) hc0 (fun W' x A' c' p q hb hr' hc' => by
    have h1 : W'.cell? ⟨w.heap.size, 0, none⟩ = some (.int .i64 a1) := ((hW.trans (hb.mono hW.size)).cell (p := ⟨w.heap.size, 0, none⟩) (by simp)).trans (by simp)
    have hx : ((x.toNat : Nat) : Int) = x := Int.toNat_of_nonneg p
    have hj : x.toNat < l0.length := by omega
    have hm : rd_L1 l0 x ∈ l0 := by
      have : rd_L1 l0 x = l0[x.toNat] := by simp [rd_L1, List.getD_eq_getElem?_getD, hj]
      rw [this]
      exact List.getElem_mem hj
    obtain ⟨b, hb1⟩ := Option.isSome_iff_exists.1 (List.all_eq_true.1 hall _ hm)
    simp only [hx]
    have hbb : (!(decide (impl_isOrder.f k (rd_L1 l0 x) a1 = some true))) = !b := by
      rw [hb1]
      cases b <;> simp
    rw [hbb]
    exact (impl_VotesOk.lit k A' c' (rd_L1 l0 x) a1 b w.heap.size W' hr' hc' h1 hb1).mono fun e w' ⟨he, hd⟩ => ⟨he, hb.trans (hd.below.mono hb.size)⟩)
  have hany : (List.range l0.length).any (fun j => !(decide (impl_isOrder.f k (rd_L1 l0 j) a1 = some true))) = !r := by
    rw [← hr, Bool.eq_iff_iff, List.any_eq_true]
    constructor
    · rintro ⟨j, hj, hq⟩
      have hj' := List.mem_range.1 hj
      have e : rd_L1 l0 j = l0[j] := by simp [rd_L1, List.getD_eq_getElem?_getD, hj']
      rw [e] at hq
      simp only [Bool.not_eq_true', List.all_eq_false]
      refine ⟨l0[j], List.getElem_mem hj', fun hc => ?_⟩
      rw [hc] at hq
      exact absurd hq (by simp)
    · intro hq
      simp only [Bool.not_eq_true', List.all_eq_false] at hq
      obtain ⟨x, hx, hq⟩ := hq
      obtain ⟨j, hj, rfl⟩ := List.mem_iff_getElem.1 hx
      have e : rd_L1 l0 j = l0[j] := by simp [rd_L1, List.getD_eq_getElem?_getD, hj]
      refine ⟨j, List.mem_range.2 hj, ?_⟩
      rw [e, Bool.eq_false_iff.2 hq]
      rfl
  rw [hany] at hcon
  exact hcon
set_option maxHeartbeats 8000000 in
set_option maxRecDepth 100000 in
theorem impl_VotesOk.calls (k : Nat) (A0 : Option Addr) (c0 : Nat) (l0 : List (List Int)) (a1 : Int) (r : Bool) (w : World) (hr0 : Kd.C (Kd.slice 3 (Kd.int .i64)) w A0 l0.length l0) (hc0 : l0.length ≤ c0) (h : impl_VotesOk.f k l0 a1 = some r) :
    Calls Try.prog 10 #[.slice A0 l0.length c0, .int .i64 a1] w fun e w' => e = .returned (.bool r) ∧ Below w.heap.size w w' := by
  have hb0 : Below w.heap.size w (w.alloc (.cells #[.int .i64 a1] 3)) := (Below.refl _ w).alloc (Nat.le_refl _) _
  have HB0 := Aside0.mk hb0
  clear hb0
  have HCON := Aside0.mk (fun r h => impl_VotesOk.con k A0 c0 l0 a1 r w hr0 hc0 h)
  clear hr0 hc0
  obtain ⟨t1, A1, H⟩ := Option.bind_eq_some_iff.mp h
  clear h
  have A1 := Aside0.mk A1
  by_cases c1 : t1 = true
  · subst c1
    rw [if_pos rfl] at H
    obtain ⟨t2, A2, H⟩ := Option.bind_eq_some_iff.mp H
    have A2 := Aside0.mk A2
    by_cases c2 : t2 = true
    · subst c2
      rw [if_pos rfl] at H
      have HC := Aside0.mk (HCON.out r H)
      clear HCON H
      go_enter Try.func10, Try.ntmps10
      go_wp2_with (first | ((with_reducible refine gate_callee (f := 28) rfl ?_); refine goesL_ (some 6) rfl rfl Try.func28 (by kernel_rfl) rfl #[.int .i64 a1, .int .i64 1, .int .i64 6] rfl (by (try simp only [List.map_toArray, List.map_cons, List.map_nil]); first | done | rfl) ?_; (with_reducible refine (impl_in.calls a1 1 6 true _ A1.out).mono ?_); rintro e w' ⟨rfl, ⟨nd, rfl⟩⟩; refine ⟨_, rfl, ?_⟩) | (go_at_call 28; (with_reducible refine (impl_in.calls (l0.length : Int) 1 15 true _ A2.out).mono ?_); rintro e w' ⟨rfl, ⟨nd2, rfl⟩⟩) | (go_at_call 29; refine (HC.out _ (by first | exact ((Below.refl _ _).drewN _).drewN _ | (repeat (first | exact Below.refl _ _ | apply pw_below_drewN | apply below_drew1)))).mono ?_; rintro e w' ⟨rfl, hb'⟩; have hb2 := Aside0.mk hb'; clear hb'))
      go_ret
      exact ⟨by first | rfl | (simp; done) | (cases r <;> rfl), below_step (by repeat (first | exact HB0.out | apply pw_below_drewN | apply below_drew1)) hb2.out⟩
    · replace c2 := Bool.eq_false_iff.mpr c2
      subst c2
      rw [if_neg (by decide)] at H
      obtain rfl := Option.some.inj H
      clear HCON H
      go_enter Try.func10, Try.ntmps10
      go_wp2_with (first | ((with_reducible refine gate_callee (f := 28) rfl ?_); refine goesL_ (some 6) rfl rfl Try.func28 (by kernel_rfl) rfl #[.int .i64 a1, .int .i64 1, .int .i64 6] rfl (by (try simp only [List.map_toArray, List.map_cons, List.map_nil]); first | done | rfl) ?_; (with_reducible refine (impl_in.calls a1 1 6 true _ A1.out).mono ?_); rintro e w' ⟨rfl, ⟨nd, rfl⟩⟩; refine ⟨_, rfl, ?_⟩) | (go_at_call 28; (with_reducible refine (impl_in.calls (l0.length : Int) 1 15 false _ A2.out).mono ?_); rintro e w' ⟨rfl, ⟨nd2, rfl⟩⟩))
      go_ret
      exact ⟨by first | rfl | (simp; done), by repeat (first | exact HB0.out | apply pw_below_drewN | apply below_drew1)⟩
  · replace c1 := Bool.eq_false_iff.mpr c1
    subst c1
    rw [if_neg (by decide)] at H
    obtain rfl := Option.some.inj H
    clear HCON H
    go_enter Try.func10, Try.ntmps10
    go_wp2_with (first | ((with_reducible refine gate_callee (f := 28) rfl ?_); refine goesL_ (some 6) rfl rfl Try.func28 (by kernel_rfl) rfl #[.int .i64 a1, .int .i64 1, .int .i64 6] rfl (by (try simp only [List.map_toArray, List.map_cons, List.map_nil]); first | done | rfl) ?_; (with_reducible refine (impl_in.calls a1 1 6 false _ A1.out).mono ?_); rintro e w' ⟨rfl, ⟨nd, rfl⟩⟩; refine ⟨_, rfl, ?_⟩))
    go_ret
    exact ⟨by first | rfl | (simp; done), by repeat (first | exact HB0.out | apply pw_below_drewN | apply below_drew1)⟩

end Go.Proofs.Ytekcdkefomkgdaa.Q
