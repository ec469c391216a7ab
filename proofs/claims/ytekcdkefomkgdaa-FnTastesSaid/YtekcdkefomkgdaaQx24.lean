/- The functions that the seat's statements reach, as plain Lean functions, and that the program's calls answer what they say; no condition beyond the values read. Written by a program of this session's over the kit's print. -/
import Derived.Test.YtekcdkefomkgdaaQx0
import Derived.Test.YtekcdkefomkgdaaQx7
import Derived.Test.YtekcdkefomkgdaaQx8
import Derived.Test.YtekcdkefomkgdaaQx23
namespace Go.Proofs.Ytekcdkefomkgdaa.Q
open Go.RowKit Go.Proofs.YtekcdkefomkgdaaW.PrintWords Go.Proofs.YtekcdkefomkgdaaW.PrintLast Go.Proofs.YtekcdkefomkgdaaW.PrintMore
attribute [local go_sem] max2_int min2_int max_two min_two max_three min_three max_four min_four   -- for this text's walks alone
set_option linter.unusedVariables false
set_option linter.unusedSimpArgs false

/-! ### slices_ContainsFunc_int_int_38: function 38 -/
set_option maxHeartbeats 8000000 in
set_option maxRecDepth 100000 in
theorem slices_ContainsFunc_int_int_38.gen (g : Nat) (lb : Array Value) (eg : ∀ args w, (callFunc g args).run Try.prog w = .ok (.enter g args) w) (pr : Nat → Bool) (A : Option Addr) (c : Nat) (l : List (Int)) (w : World) (hr : Kd.C (Kd.int .i64) w A l.length l) (hc : l.length ≤ c)
    (hp : ∀ (W : World) (x : Int), 0 ≤ x → x < (l.length : Int) → Below w.heap.size w W → Calls Try.prog g (#[.int .i64 (rd l x)] ++ lb) W fun e w' => e = .returned (.bool (pr x.toNat)) ∧ Below w.heap.size w w') :
    Calls Try.prog 38 #[.slice A l.length c, .func (.func g) #[] lb] w fun e w' => e = .returned (.bool ((List.range l.length).any pr)) ∧ Below w.heap.size w w' := by
  have hcon := slices_IndexFunc_int_int_35.gen g lb eg pr A c l w hr hc hp
  rw [← idxR_any pr l.length]
  generalize idxR pr l.length = ix at hcon ⊢
  have HCON := Aside0.mk hcon
  clear hcon hr hc hp eg
  go_enter Try.func38, Try.ntmps38
  go_wp2_with (go_at_call 35; refine HCON.out.mono ?_; rintro e w' ⟨rfl, hb'⟩)
  go_ret
  exact ⟨by first | rfl | (simp; done), hb'⟩

-- NOT PRINTED: function 37 (impl_BeatsAll_1)

/-! ### impl_BeatsAll: function 22 -/
set_option maxHeartbeats 8000000 in
set_option maxRecDepth 100000 in
theorem impl_BeatsAll.lit2 (k : Nat) (b a : Int) (A : Option Addr) (c : Nat) (vs : List (List Int)) (r : Bool) (g1 g2 : Nat) (w : World) (hr : Kd.C (Kd.slice 3 (Kd.int .i64)) w A vs.length vs) (hc : vs.length ≤ c) (h1 : w.cell? ⟨g1, 0, none⟩ = some (.int .i64 a)) (h2 : w.cell? ⟨g2, 0, none⟩ = some (.slice A vs.length c)) (h : a ≠ b → impl_beats.f k vs a b = some r) :
    Calls Try.prog 39 #[.int .i64 b, .pointer (some ⟨g1, 0, none⟩), .pointer (some ⟨g2, 0, none⟩)] w fun e w' => e = .returned (.bool (!(decide (a = b)) && !r)) ∧ Drawn0 w w' := by
  by_cases hab : a = b
  · subst hab
    clear h
    have e0 : (a != a) = false := by simp
    go_enter Try.func39, Try.ntmps39
    go_wp2
    go_ret
    exact ⟨by simp, by repeat (first | exact Drawn0.refl _ | apply Drawn0.step)⟩
  · have HH := Aside0.mk (h hab)
    have HR := Aside0.mk hr
    have HC := Aside0.mk hc
    have e0 : (a != b) = true := by simp [hab]
    have HE := Aside0.mk hab
    clear h hr hc hab
    go_enter Try.func39, Try.ntmps39
    go_wp2_with (go_at_call 40; (with_reducible refine (impl_beats.calls k _ _ vs a b r _ ?side1 ?side2 HH.out).mono ?_); (case side1 => repeat (first | exact HR.out | (with_reducible refine Kd.C_alloc ?_ _) | (with_reducible refine Kd.C_drewN ?_ _) | (with_reducible refine Kd.C_drew ?_))); (case side2 => exact HC.out); rintro e w' ⟨rfl, ⟨nd, rfl⟩⟩)
    go_ret
    exact ⟨by rw [decide_eq_false HE.out]; rfl, by repeat (first | exact Drawn0.refl _ | apply Drawn0.step)⟩
/-- Is every other bread of the row beaten? -/
def impl_BeatsAll.all (k : Nat) (vs : List (List Int)) (L : List Int) (a : Int) : Bool := L.all fun b => decide (a = b) || decide (impl_beats.f k vs a b = some true)
def impl_BeatsAll.told (k : Nat) (vs : List (List Int)) (L : List Int) : Bool := L.all fun a => L.all fun b => decide (a = b) || (impl_beats.f k vs a b).isSome
theorem impl_BeatsAll.any_all (k : Nat) (vs : List (List Int)) (L : List Int) (a : Int) : (List.range L.length).any (fun j => !(decide (a = rd L j)) && !(decide (impl_beats.f k vs a (rd L j) = some true))) = !(impl_BeatsAll.all k vs L a) := by
  unfold impl_BeatsAll.all
  rw [Bool.eq_iff_iff, List.any_eq_true]
  have e : ∀ j, (h : j < L.length) → rd L j = L[j] := fun j h => by simp [rd, List.getD_eq_getElem?_getD, h]
  constructor
  · rintro ⟨j, hj, hq⟩
    have hj' := List.mem_range.1 hj
    rw [e j hj'] at hq
    simp only [Bool.not_eq_true', List.all_eq_false]
    refine ⟨L[j], List.getElem_mem hj', fun hc => ?_⟩
    simp only [Bool.and_eq_true, Bool.not_eq_true'] at hq
    rw [hq.1, hq.2] at hc
    exact absurd hc (by simp)
  · intro hq
    simp only [Bool.not_eq_true', List.all_eq_false] at hq
    obtain ⟨x, hx, hq⟩ := hq
    obtain ⟨j, hj, rfl⟩ := List.mem_iff_getElem.1 hx
    refine ⟨j, List.mem_range.2 hj, ?_⟩
    rw [e j hj]
    simpa [not_or] using hq
set_option maxHeartbeats 8000000 in
set_option maxRecDepth 100000 in
theorem impl_BeatsAll.lit1 (k : Nat) (a n : Int) (L : List Int) (A : Option Addr) (c : Nat) (vs : List (List Int)) (g1 g2 : Nat) (w : World) (hr : Kd.C (Kd.slice 3 (Kd.int .i64)) w A vs.length vs) (hc : vs.length ≤ c) (h1 : w.cell? ⟨g1, 0, none⟩ = some (.int .i64 n)) (h2 : w.cell? ⟨g2, 0, none⟩ = some (.slice A vs.length c)) (hi : impl_indices.f k n = some L) (h : ∀ b ∈ L, a ≠ b → (impl_beats.f k vs a b).isSome = true) :
    Calls Try.prog 37 #[.int .i64 a, .pointer (some ⟨g1, 0, none⟩), .pointer (some ⟨g2, 0, none⟩)] w fun e w' => e = .returned (.bool (impl_BeatsAll.all k vs L a)) ∧ Below w.heap.size w w' := by
  have HI := Aside0.mk hi
  have hb0 : Below w.heap.size w (w.alloc (.cells #[.int .i64 a] 3)) := (Below.refl _ w).alloc (Nat.le_refl _) _
  have HCON := Aside0.mk (fun (W : World) (A' : Option Addr) (c' : Nat) (hW : Below (w.alloc (.cells #[.int .i64 a] 3)).heap.size (w.alloc (.cells #[.int .i64 a] 3)) W) (hr' : Kd.C (Kd.int .i64) W A' L.length L) (hc' : L.length ≤ c') => by
    have hwW : Below w.heap.size w W := hb0.trans (hW.mono hb0.size)
    have hg2 : g2 < w.heap.size := World.block_lt_of_cell? w _ h2
    exact slices_ContainsFunc_int_int_38.gen 39 #[.pointer (some ⟨w.heap.size, 0, none⟩), .pointer (some ⟨g2, 0, none⟩)] (enters_by Try.func39 (by kernel_rfl) rfl) (fun j => !(decide (a = rd L j)) && !(decide (impl_beats.f k vs a (rd L j) = some true))) A' c' L W hr' hc' (fun W' x p q hb => by
      have k1 : W'.cell? ⟨w.heap.size, 0, none⟩ = some (.int .i64 a) := ((hW.trans (hb.mono hW.size)).cell (p := ⟨w.heap.size, 0, none⟩) (by simp)).trans (by simp)
      have k2 : W'.cell? ⟨g2, 0, none⟩ = some (.slice A vs.length c) := ((hwW.trans (hb.mono hwW.size)).cell (p := ⟨g2, 0, none⟩) hg2).trans h2
      have hx : ((x.toNat : Nat) : Int) = x := Int.toNat_of_nonneg p
      have hj : x.toNat < L.length := by omega
      have hm : rd L x ∈ L := by
        have : rd L x = L[x.toNat] := by simp [rd, List.getD_eq_getElem?_getD, hj]
        rw [this]
        exact List.getElem_mem hj
      simp only [hx]
      by_cases hab : a = rd L x
      · rw [decide_eq_true hab]
        have := impl_BeatsAll.lit2 k (rd L x) a A c vs true w.heap.size g2 W' (Kd.C_below hr (hwW.trans (hb.mono hwW.size))) hc k1 k2 (fun hn => absurd hab hn)
        rw [decide_eq_true hab] at this
        exact this.mono fun e w' ⟨he, hd⟩ => ⟨he, hb.trans (hd.below.mono hb.size)⟩
      · obtain ⟨r, hr1⟩ := Option.isSome_iff_exists.1 (h _ hm hab)
        have hbb : (decide (impl_beats.f k vs a (rd L x) = some true)) = r := by
          rw [hr1]
          cases r <;> simp
        rw [hbb]
        exact (impl_BeatsAll.lit2 k (rd L x) a A c vs r w.heap.size g2 W' (Kd.C_below hr (hwW.trans (hb.mono hwW.size))) hc k1 k2 (fun _ => hr1)).mono fun e w' ⟨he, hd⟩ => ⟨he, hb.trans (hd.below.mono hb.size)⟩))
  rw [impl_BeatsAll.any_all] at HCON
  generalize impl_BeatsAll.all k vs L a = r at HCON ⊢
  have HB0 := Aside0.mk hb0
  replace h1 := (hb0.cell (p := ⟨g1, 0, none⟩) (World.block_lt_of_cell? w _ h1)).trans h1
  clear hi hb0 hr hc h h2
  go_enter Try.func37, Try.ntmps37
  go_wp2_with (first | (go_at_call 36; (with_reducible refine (impl_indices.calls k n L _ HI.out).mono ?_); rintro e w9 ⟨v0_, rfl, hR, hb⟩; obtain ⟨A_, c_, hv_⟩ := Kd.R_slice hR; subst hv_; have HW := Aside0.mk hb; have HR := Aside0.mk hR; clear hb hR) | (go_at_call 38; refine (HCON.out _ _ _ (by first | exact HW.out | (repeat (first | exact HW.out | apply pw_below_drewN | apply below_drew1))) (by exact (Kd.R_reads' HR.out).2.2) (by exact (Kd.R_reads' HR.out).2.1)).mono ?_; rintro e w' ⟨rfl, hb'⟩; have hb2 := Aside0.mk hb'; clear hb'))
  go_ret
  exact ⟨by first | rfl | (simp; done) | (cases r <;> rfl), HB0.out.trans ((HW.out.trans (hb2.out.mono HW.out.size)).mono HB0.out.size)⟩
def impl_BeatsAll.f (k : Nat) (l0 : List (List Int)) (a1 : Int) : Option (Int) := (impl_VotesOk.f k l0 a1).bind fun t1 => (if t1 = true then ((impl_indices.f k a1).bind fun L => (if impl_BeatsAll.told k l0 L = true then (some (idxR (fun j => impl_BeatsAll.all k l0 L (rd L j)) L.length)) else (none))) else (none))
theorem impl_BeatsAll.up (k : Nat) (vs : List (List Int)) (L : List Int) (h : impl_BeatsAll.told k vs L = true) : impl_BeatsAll.told (k + 1) vs L = true ∧ ∀ a ∈ L, impl_BeatsAll.all (k + 1) vs L a = impl_BeatsAll.all k vs L a := by
  have h1 : ∀ a ∈ L, ∀ b ∈ L, a ≠ b → ∃ r, impl_beats.f k vs a b = some r := fun a ha b hb hn => by
    have := List.all_eq_true.1 (List.all_eq_true.1 h a ha) b hb
    simp only [hn, decide_false, Bool.false_or] at this
    exact Option.isSome_iff_exists.1 this
  have e : ∀ a ∈ L, ∀ b ∈ L, a ≠ b → impl_beats.f (k + 1) vs a b = impl_beats.f k vs a b := fun a ha b hb hn => by
    obtain ⟨r, hr⟩ := h1 a ha b hb hn
    rw [hr]
    exact impl_beats.mono vs a b k r hr
  constructor
  · unfold impl_BeatsAll.told
    rw [List.all_eq_true]
    intro a ha
    rw [List.all_eq_true]
    intro b hb
    by_cases hn : a = b
    · simp [hn]
    · obtain ⟨r, hr⟩ := h1 a ha b hb hn
      rw [e a ha b hb hn, hr]
      simp
  · intro a ha
    unfold impl_BeatsAll.all
    rw [Bool.eq_iff_iff, List.all_eq_true, List.all_eq_true]
    constructor
    · intro hh b hb
      have := hh b hb
      by_cases hn : a = b
      · simp [hn]
      · rwa [e a ha b hb hn] at this
    · intro hh b hb
      have := hh b hb
      by_cases hn : a = b
      · simp [hn]
      · rwa [e a ha b hb hn]
theorem idxR_same (q p : Nat → Bool) (n : Nat) (h : ∀ j, j < n → q j = p j) : idxR q n = idxR p n := by
  by_cases c : ∃ k, k < n ∧ p k = true
  · have hm : ∃ k, k < n ∧ p k = true ∧ ∀ j, j < k → p j = false := by
      obtain ⟨k, hk⟩ := c
      induction k using Nat.strongRecOn with
      | _ k ih =>
        by_cases d : ∃ j, j < k ∧ p j = true
        · obtain ⟨j, hj, hp⟩ := d
          exact ih j hj ⟨by omega, hp⟩
        · exact ⟨k, hk.1, hk.2, fun j hj => by
            cases hpj : p j with
            | false => rfl
            | true => exact absurd ⟨j, hj, hpj⟩ d⟩
    obtain ⟨k, hk, hp, hb⟩ := hm
    rw [idxR_hit p n k hk hp hb, idxR_hit q n k hk ((h k hk).trans hp) (fun j hj => (h j (by omega)).trans (hb j hj))]
  · have hb : ∀ j, j < n → p j = false := fun j hj => by
      cases hpj : p j with
      | false => rfl
      | true => exact absurd ⟨j, hj, hpj⟩ c
    rw [idxR_miss p n hb, idxR_miss q n (fun j hj => (h j hj).trans (hb j hj))]
theorem impl_BeatsAll.mono : ∀ a0 a1 k, LeO (impl_BeatsAll.f k a0 a1) (impl_BeatsAll.f (k + 1) a0 a1) := by
  intro a0 a1 k
  unfold impl_BeatsAll.f
  refine LeO.bind (impl_VotesOk.mono _ _ _) (fun _ => ?_)
  refine LeO.ite ?_ (LeO.none _)
  refine LeO.bind (impl_indices.mono _ _) (fun L => ?_)
  intro r h
  by_cases c : impl_BeatsAll.told k a0 L = true
  · rw [if_pos c] at h
    obtain ⟨h1, h2⟩ := impl_BeatsAll.up k a0 L c
    rw [if_pos h1, ← h]
    congr 1
    have e : ∀ j, j < L.length → impl_BeatsAll.all (k + 1) a0 L (rd L j) = impl_BeatsAll.all k a0 L (rd L j) := fun j hj => h2 _ (by
      have : rd L j = L[j] := by simp [rd, List.getD_eq_getElem?_getD, hj]
      rw [this]
      exact List.getElem_mem hj)
    exact idxR_same _ _ L.length e
  · rw [if_neg c] at h
    exact absurd h (by simp)
set_option maxHeartbeats 8000000 in
set_option maxRecDepth 100000 in
theorem impl_BeatsAll.calls (k : Nat) (A0 : Option Addr) (c0 : Nat) (l0 : List (List Int)) (a1 : Int) (r : Int) (w : World) (hr0 : Kd.C (Kd.slice 3 (Kd.int .i64)) w A0 l0.length l0) (hc0 : l0.length ≤ c0) (h : impl_BeatsAll.f k l0 a1 = some r) :
    Calls Try.prog 22 #[.slice A0 l0.length c0, .int .i64 a1] w fun e w' => e = .returned (.int .i64 r) ∧ Below w.heap.size w w' := by
  obtain ⟨t1, A1, H⟩ := Option.bind_eq_some_iff.mp h
  by_cases c1 : t1 = true
  · subst c1
    rw [if_pos rfl] at H
    obtain ⟨L, A2, H⟩ := Option.bind_eq_some_iff.mp H
    by_cases c2 : impl_BeatsAll.told k l0 L = true
    · rw [if_pos c2] at H
      obtain rfl := Option.some.inj H
      have hb0 : Below w.heap.size w ((w.alloc (.cells #[.slice A0 l0.length c0] 22)).alloc (.cells #[.int .i64 a1] 3)) := ((Below.refl _ w).alloc (Nat.le_refl _) _).alloc (by simp) _
      have HB0 := Aside0.mk hb0
      have HX := Aside0.mk (fun (W : World) (A' : Option Addr) (c' : Nat) (hW : Below ((w.alloc (.cells #[.slice A0 l0.length c0] 22)).alloc (.cells #[.int .i64 a1] 3)).heap.size ((w.alloc (.cells #[.slice A0 l0.length c0] 22)).alloc (.cells #[.int .i64 a1] 3)) W) (hr' : Kd.C (Kd.int .i64) W A' L.length L) (hc' : L.length ≤ c') => by
        have hwW : Below w.heap.size w W := hb0.trans (hW.mono hb0.size)
        exact slices_IndexFunc_int_int_35.gen 37 #[.pointer (some ⟨w.heap.size + 1, 0, none⟩), .pointer (some ⟨w.heap.size, 0, none⟩)] (enters_by Try.func37 (by kernel_rfl) rfl) (fun j => impl_BeatsAll.all k l0 L (rd L j)) A' c' L W hr' hc' (fun W' x p q hb => by
          have k1 : W'.cell? ⟨w.heap.size + 1, 0, none⟩ = some (.int .i64 a1) := ((hW.trans (hb.mono hW.size)).cell (p := ⟨w.heap.size + 1, 0, none⟩) (by simp)).trans (by simp)
          have k2 : W'.cell? ⟨w.heap.size, 0, none⟩ = some (.slice A0 l0.length c0) := ((hW.trans (hb.mono hW.size)).cell (p := ⟨w.heap.size, 0, none⟩) (by simp; omega)).trans (by simp)
          have hx : ((x.toNat : Nat) : Int) = x := Int.toNat_of_nonneg p
          have hj : x.toNat < L.length := by omega
          have hm : rd L x ∈ L := by
            have : rd L x = L[x.toNat] := by simp [rd, List.getD_eq_getElem?_getD, hj]
            rw [this]
            exact List.getElem_mem hj
          simp only [hx]
          exact (impl_BeatsAll.lit1 k (rd L x) a1 L A0 c0 l0 (w.heap.size + 1) w.heap.size W' (Kd.C_below hr0 (hwW.trans (hb.mono hwW.size))) hc0 k1 k2 A2 (fun b hb1 hn => by
            have := List.all_eq_true.1 (List.all_eq_true.1 c2 _ hm) b hb1
            simpa only [hn, decide_false, Bool.false_or] using this)).mono fun e w' ⟨he, hd⟩ => ⟨he, hb.trans (hd.mono hb.size)⟩))
      generalize idxR (fun j => impl_BeatsAll.all k l0 L (rd L j)) L.length = r at HX ⊢
      have HN := Aside0.mk (fun (W : World) (hW : Below ((w.alloc (.cells #[.slice A0 l0.length c0] 22)).alloc (.cells #[.int .i64 a1] 3)).heap.size ((w.alloc (.cells #[.slice A0 l0.length c0] 22)).alloc (.cells #[.int .i64 a1] 3)) W) => show W.cell? ⟨w.heap.size + 1, 0, none⟩ = some (.int .i64 a1) from (hW.cell (p := ⟨w.heap.size + 1, 0, none⟩) (by simp)).trans (by simp))
      have HR0 := Aside0.mk hr0
      have HC0 := Aside0.mk hc0
      have A1 := Aside0.mk A1
      have A2 := Aside0.mk A2
      clear hr0 hc0 h H c2 hb0
      go_enter Try.func22, Try.ntmps22
      go_wp2_with (first | (go_at_call 10; (with_reducible refine (impl_VotesOk.calls k _ _ l0 a1 true _ ?side1 ?side2 A1.out).mono ?_); (case side1 => exact Kd.C_below HR0.out HB0.out); (case side2 => exact HC0.out); rintro e w3 ⟨rfl, hb3⟩; have HB3 := Aside0.mk hb3; have hn3 := HN.out _ hb3; clear hb3) | (go_at_call 36; (with_reducible refine (impl_indices.calls k a1 L _ A2.out).mono ?_); rintro e w9 ⟨v0_, rfl, hR, hb⟩; obtain ⟨A_, c_, hv_⟩ := Kd.R_slice hR; subst hv_; have HW := Aside0.mk (HB3.out.trans (hb.mono HB3.out.size)); have HR := Aside0.mk hR; clear hb hR) | (go_at_call 35; refine (HX.out _ _ _ (by first | exact HW.out | (repeat (first | exact HW.out | apply pw_below_drewN | apply below_drew1))) (by exact (Kd.R_reads' HR.out).2.2) (by exact (Kd.R_reads' HR.out).2.1)).mono ?_; rintro e w' ⟨rfl, hb'⟩; have hb2 := Aside0.mk hb'; clear hb'))
      go_ret
      exact ⟨by first | rfl | (simp; done), HB0.out.trans ((HW.out.trans (hb2.out.mono HW.out.size)).mono HB0.out.size)⟩
    · rw [if_neg c2] at H
      exact absurd H (by simp)
  · rw [if_neg c1] at H
    exact absurd H (by simp)

end Go.Proofs.Ytekcdkefomkgdaa.Q
