/- The functions that the seat's statements reach, as plain Lean functions, and that the program's calls answer what they say; no condition beyond the values read. Written by a program of this session's over the kit's print. -/
import Derived.Lib.SliceRun
import Derived.Test.YtjabgjlkemfofaaQx0
import Derived.Test.YtjabgjlkemfofaaQx7
namespace Go.Proofs.Ytjabgjlkemfofaa.Q
open Go.RowKit Go.Proofs.YtjabgjlkemfofaaW.PrintWords Go.Proofs.YtjabgjlkemfofaaW.PrintLast Go.Proofs.YtjabgjlkemfofaaW.PrintMore
attribute [local go_sem] max2_int min2_int max_two min_two max_three min_three max_four min_four   -- for this text's walks alone
set_option linter.unusedVariables false
set_option linter.unusedSimpArgs false

/-! ### impl_Part_40: function 40, at impl.MustName's closure -/
/-- What the closure answers, its two captured numbers handed over as a pair. -/
def mustQ (a : Int × Int) (x : S41) : Bool := decide (wrap64 (x.f1 * 100) < wrap64 (a.1 * a.2))
set_option maxHeartbeats 8000000 in
set_option maxRecDepth 100000 in
theorem mustQ_lit (x : S41) (a1 a2 : Int) (g1 g2 : Nat) (w : World) (h1 : w.cell? ⟨g1, 0, none⟩ = some (.int .i64 a1)) (h2 : w.cell? ⟨g2, 0, none⟩ = some (.int .i64 a2)) :
    Calls Try.prog 41 #[.agg #[.string x.f0, .int .i64 x.f1], .pointer (some ⟨g1, 0, none⟩), .pointer (some ⟨g2, 0, none⟩)] w fun e w' => e = .returned (.bool (mustQ (a1, a2) x)) ∧ Below w.heap.size w w' := by
  have hu41 := Try.underlying41
  have l1 := World.block_lt_of_cell? w _ h1
  have l2 := World.block_lt_of_cell? w _ h2
  dsimp only at l1 l2
  have h1' := Lib.cell?_alloc_some (.cells #[.string x.f0, .int .i64 x.f1] 41 (0, 0)) h1
  have h2' := Lib.cell?_alloc_some (.cells #[.string x.f0, .int .i64 x.f1] 41 (0, 0)) h2
  go_enter Try.func41, Try.ntmps41
  go_wp2
  go_ret
  refine ⟨?_, by repeat (first | exact Below.refl _ _ | apply below_alloc | apply pw_below_drewN | apply below_drew1)⟩
  unfold mustQ
  first | rfl | (simp; done)
theorem clearR {w : World} {base : Nat} {ok : Nat → Prop} {g i cap o : Nat} {xs : List S41} {cur : Array Value} (h : Kd.R k41 41 w base ok (.slice (some ⟨g, 0, none⟩) i cap) xs) (vs : List Value) (ho : i * 2 ≤ o) (hl : o + vs.length ≤ cap * 2) : Kd.R k41 41 (w.setCells g o vs) base ok (.slice (some ⟨g, 0, none⟩) i cap) xs := by
  obtain ⟨hok, inner, ⟨hil, hown⟩, hrep⟩ := h
  rcases hown with ⟨hv, _⟩ | ⟨g', cap', cur, hv, hbg, hh, hnc, hcm, hcs, htk⟩
  · cases hv
  · have hi : i = xs.length := by injection hv
    cases hv
    have hs2 : (k41).sz = 2 := rfl
    obtain ⟨cur', h3, h4, h5⟩ := setCells_row vs o w cur hh (by rw [hcs, hs2]; exact hl)
    refine ⟨hok, inner, ⟨hil, .inr ⟨g, cap, cur', rfl, hbg, h3, hnc, hcm, by rw [h4]; exact hcs, ?_⟩⟩, hrep.imp_ (fun p c hp => ?_)⟩
    · have hcl : cur.toList.length = cap * 2 := by rw [Array.length_toList, hcs, hs2]
      have hle : xs.length * 2 ≤ min o (cap * 2) := by omega
      rw [h5, ← htk, List.append_assoc, hs2, List.take_append_of_le_length (by rw [List.length_take, hcl]; exact hle), List.take_take]
      congr 1
      exact Nat.min_eq_left ho
    · obtain rfl := k41_openM hp
      exact k41_mkM _ _ _ p
theorem grown_cells (w : World) (g o : Nat) (vs : List Value) : w.grownBy (w.setCells g o vs) (some g) := by
  obtain ⟨h1, h2, h3, h4⟩ := setCells_same g vs o w
  exact ⟨h1, h2, h3, by rw [h4]; exact Nat.le_refl _, fun k _ hne => setCells_far vs o k (fun e => hne (by rw [e]))⟩
def zerosP (m : Nat) : List Value := (Builtin.zeroCells (Value.agg #[(.string ⟨#[]⟩), (.int .i64 0)]).cells m).toList
theorem zerosP_length (m : Nat) : (zerosP m).length = m * 2 := by
  simp [zerosP, Builtin.zeroCells, Value.cells]
theorem zerosP_one (m : Nat) : ∀ v ∈ zerosP m, v.oneCell' = true := by
  intro v hv
  simp only [zerosP, Builtin.zeroCells, Value.cells] at hv
  obtain ⟨j, hj, rfl⟩ := List.mem_iff_getElem.1 hv
  have : j % 2 = 0 ∨ j % 2 = 1 := by omega
  rcases this with e | e <;> simp [e, Value.oneCell']
theorem clear_run (W : World) (g i m c : Nat) (cur : Array Value) (hh : W.heap[g]? = some (.cells cur 41 (0, 0))) (hl : i * 2 + m * 2 ≤ cur.size) (hm : 0 < m) (ty : TypeId) :
    (Builtin.clear_ #[25] ty #[.slice (some ⟨g, i * 2, none⟩) m c]).run Try.prog W = .ok (.tuple #[]) (W.setCells g (i * 2) (zerosP m)) := by
  have hst := run_storeCells_cells (P := Try.prog) g (i * 2) (zerosP m) 0 W (fun j hj => by
    rw [zerosP_length] at hj
    have : i * 2 + j < cur.size := by omega
    simp [World.cell?, hh, this]) (fun j hj => by simp [World.frozen?, hh]) (zerosP_one m)
  simp only [Nat.add_zero] at hst
  obtain ⟨m, rfl⟩ : ∃ k, m = k + 1 := ⟨m - 1, by omega⟩
  have hz : (Builtin.zeroCells (Value.agg #[(.string ⟨#[]⟩), (.int .i64 0)]).cells (m + 1)).toList = zerosP (m + 1) := rfl
  simp only [Builtin.clear_]
  simp [run_underlying Try.underlying25, Try.zeroValue41, hz, hst]
def impl_Part_40.f (l0 : List S41) (a1 : Int × Int) : Option (List S41) := if idxR (fun j => mustQ a1 (l0.getD j z41)) l0.length = -1 then (some l0) else (if (l0.drop ((idxR (fun j => mustQ a1 (l0.getD j z41)) l0.length).toNat + 1)).all (mustQ a1) = true then (some (l0.take (idxR (fun j => mustQ a1 (l0.getD j z41)) l0.length).toNat)) else (none))
theorem idxR_lt (q : Nat → Bool) (n : Nat) (h : idxR q n ≠ -1) : ∃ i : Nat, i < n ∧ idxR q n = (i : Int) := by
  unfold idxR at h ⊢
  by_cases c : (List.range n).any q = true
  · rw [if_pos c]
    refine ⟨_, ?_, rfl⟩
    obtain ⟨x, hx, hq⟩ := List.any_eq_true.1 c
    have := List.findIdx_lt_length_of_exists (p := q) ⟨x, hx, hq⟩
    simpa using this
  · rw [if_neg c] at h
    exact absurd rfl h
set_option maxHeartbeats 8000000 in
set_option maxRecDepth 100000 in
theorem impl_Part_40.callsB {g1 g2 : Nat} (u_ : Value) (l0 : List S41) (a1 : Int × Int) (r : List S41) (base : Nat) (ok : Nat → Prop) (w : World) (h1 : w.cell? ⟨g1, 0, none⟩ = some (.int .i64 a1.1)) (h2 : w.cell? ⟨g2, 0, none⟩ = some (.int .i64 a1.2)) (ho : Kd.R k41 41 w base ok u_ l0) (h : impl_Part_40.f l0 a1 = some r) :
    Calls Try.prog 40 #[u_, .func (.func 41) #[] #[.pointer (some ⟨g1, 0, none⟩), .pointer (some ⟨g2, 0, none⟩)]] w fun e w' => ∃ v0_ : Value, e = .returned v0_ ∧ Kd.R k41 41 w' base ok v0_ r ∧ w.grownBy w' u_.ownBlock := by
  have HQ := Aside0.mk (show ∀ (W : World) (x : S41), Below w.heap.size w W → Calls Try.prog 41 #[.agg #[.string x.f0, .int .i64 x.f1], .pointer (some ⟨g1, 0, none⟩), .pointer (some ⟨g2, 0, none⟩)] W fun e w' => e = .returned (.bool (mustQ a1 x)) ∧ Below W.heap.size W w' from fun W x hb => mustQ_lit x a1.1 a1.2 g1 g2 W ((hb.cell (World.block_lt_of_cell? w _ h1)).trans h1) ((hb.cell (World.block_lt_of_cell? w _ h2)).trans h2))
  clear h1 h2
  obtain ⟨A, c, rfl⟩ := Kd.R_slice ho
  obtain ⟨_, hlc, hC⟩ := Kd.R_reads' ho
  have hlen : l0.length ≤ 9223372036854775807 := hC.2.1
  have hI := impl_Part_44.gen 41 #[.pointer (some ⟨g1, 0, none⟩), .pointer (some ⟨g2, 0, none⟩)] (enters_by Try.func41 (by kernel_rfl) rfl) (fun j => mustQ a1 (l0.getD j z41)) A c l0 w hC hlc (fun W x p q hb => by
    have e : rd_T41 l0 x = l0.getD x.toNat z41 := rfl
    rw [← e]
    exact (HQ.out W (rd_T41 l0 x) hb).mono fun e w' ⟨he, hd⟩ => ⟨he, hb.trans (hd.mono hb.size)⟩)
  have HI := Aside0.mk hI
  clear hI
  unfold impl_Part_40.f at h
  by_cases c1 : idxR (fun j => mustQ a1 (l0.getD j z41)) l0.length = -1
  · rw [if_pos c1] at h
    obtain rfl := Option.some.inj h
    have HO := Aside0.mk ho
    rw [c1] at HI
    clear ho hlc hC h c1 HQ
    go_enter Try.func40, Try.ntmps40
    go_wp2_with (go_at_call 44; refine HI.out.mono ?_; rintro e w1 ⟨rfl, hb⟩; have HB := Aside0.mk hb; clear hb)
    go_ret
    exact ⟨_, rfl, Kd.R_below HO.out HB.out, grown_of_below HB.out _⟩
  · rw [if_neg c1] at h
    obtain ⟨i, hil, e1⟩ := idxR_lt _ _ c1
    rw [e1] at h HI
    rw [Int.toNat_natCast] at h
    by_cases c2 : (l0.drop (i + 1)).all (mustQ a1) = true
    · rw [if_pos c2] at h
      obtain rfl := Option.some.inj h
      obtain ⟨g, cap, e2, hbg, hgl, cells, hcells⟩ := Kd.R_form ho (by omega)
      cases e2
      have HO := Aside0.mk ho
      have HC2 := Aside0.mk c2
      have HIL := Aside0.mk hil
      have HLC := Aside0.mk hlc
      have HCELL := Aside0.mk hC
      have hne1 : ((i : Int) == -1) = false := beq_eq_false_iff_ne.2 (by omega)
      have hwi : wrap64 ((i : Int) + 1) = (i : Int) + 1 := by unfold wrap64; omega
      have HWI := Aside0.mk hwi
      have HLEN := Aside0.mk hlen
      clear ho hlc hC h c1 c2 e1 hcells hwi hlen
      have hi0 : (0 : Int) ≤ (i : Int) := by omega
      have hi1 : (i : Int) + 1 ≤ (l0.length : Int) := by omega
      clear hil
      go_enter Try.func40, Try.ntmps40
      go_wp2_with (go_at_call 44; refine HI.out.mono ?_; rintro e w1 ⟨rfl, hb⟩; have HB := Aside0.mk hb; clear hb)
      go_loopg [5, 6] l0.length (fun gg s5 s6 wr => ∃ j : Nat, s5 = .int .i64 (i : Int) ∧ s6 = .int .i64 (j : Int) ∧ Aside0 (i + 1 ≤ j ∧ j ≤ l0.length ∧ l0.length - j ≤ gg) ∧ Aside0 (Below w.heap.size w wr))
      case atStart => exact ⟨i + 1, rfl, by first | rfl | (rw [HWI.out]; rfl) | simp [HWI.out], ⟨by omega, by have := HIL.out; omega, by omega⟩, HB⟩
      case round =>
        clear HI HB
        obtain ⟨j, rfl, rfl, HJ, HB⟩ := hrel
        by_cases hlt : (j : Int) < (l0.length : Int)
        · have p : (0 : Int) ≤ (j : Int) := by omega
          obtain ⟨ad, e0, hx0, hx1⟩ := at_T41 HCELL.out (j : Int) p hlt
          cases e0
          rw [add_plain, Int.toNat_natCast] at hx0 hx1
          replace hx0 := (HB.out.cell (World.block_lt_of_cell? w _ hx0)).trans hx0
          replace hx1 := (HB.out.cell (World.block_lt_of_cell? w _ hx1)).trans hx1
          have hq : mustQ a1 (rd_T41 l0 (j : Int)) = true := by
            have h3 := List.all_eq_true.1 HC2.out (rd_T41 l0 (j : Int)) (by
              have h4 := HJ.out.1
              have h5 : j < l0.length := by omega
              rw [List.mem_iff_getElem]
              refine ⟨j - (i + 1), by rw [List.length_drop]; omega, ?_⟩
              rw [List.getElem_drop]
              simp only [rd_T41, Int.toNat_natCast, List.getD_eq_getElem?_getD, List.getElem?_eq_getElem h5, Option.getD_some]
              congr 1
              omega)
            exact h3
          have HQT := Aside0.mk (fun W hb => (HQ.out W (rd_T41 l0 (j : Int)) hb))
          rw [hq] at HQT
          clear hq
          have hlt0 : decide ((j : Int) < (l0.length : Int)) = true := decide_eq_true hlt
          have p0 := eq_true p
          have q0 := eq_true hlt
          clear hlt p
          go_wp2_with fail
          refine (HQT.out _ (by repeat (first | exact HB.out | apply below_alloc | apply pw_below_drewN | apply below_drew1))).mono ?_
          rintro e w2 ⟨rfl, hb⟩
          have n1_ := Aside0.mk (below_step (show Below w.heap.size w (wr.alloc _) from below_alloc HB.out _) hb)
          clear HB hb hx0 hx1
          have HB := n1_
          clear n1_
          have hwj : wrap64 ((j : Int) + 1) = (j : Int) + 1 := by have := HLEN.out; have := of_eq_true q0; unfold wrap64; omega
          have HWJ := Aside0.mk hwj
          clear hwj
          go_wp2
          go_roundg (l0.length - (j + 1))
          case measure => have := HJ.out; have := of_eq_true q0; omega
          case rel =>
            have := HJ.out
            have := of_eq_true q0
            exact ⟨j + 1, rfl, by first | rfl | (rw [HWJ.out]; rfl) | simp [HWJ.out], ⟨by omega, by omega, by omega⟩, HB⟩
        · have hj2 : j = l0.length := by have := HJ.out; omega
          subst hj2
          have hO2 := Kd.R_below HO.out HB.out
          obtain ⟨g', cap', e3, _, _, cur, hcur⟩ := Kd.R_form hO2 (by have := HIL.out; omega)
          cases e3
          have hsz : cur.size = c * 2 := by
            obtain ⟨_, inner, ⟨_, hown⟩, _⟩ := hO2
            rcases hown with ⟨hv, _⟩ | ⟨g', cap', cur2, hv, _, hh, _, _, hcs, _⟩
            · cases hv
            · cases hv
              rw [hh] at hcur
              cases hcur
              exact hcs
          have hcl := clear_run wr g i (l0.length - i) (c - i) cur hcur (by have := HIL.out; have := HLC.out; rw [hsz]; omega) (by have := HIL.out; omega)
          have hRT := clearR (o := i * 2) (cur := cur) (Kd.R_take hO2 (Nat.le_of_lt HIL.out)) (zerosP (l0.length - i)) (Nat.le_refl _) (by rw [zerosP_length]; have := HIL.out; have := HLC.out; omega)
          have HRT := Aside0.mk hRT
          have HG := Aside0.mk ((grown_cells wr g (i * 2) (zerosP (l0.length - i))))
          have hci : (c = i) = False := eq_false (by have := HIL.out; have := HLC.out; omega)
          have hic : (i : Int) ≤ (c : Int) := by have := HIL.out; have := HLC.out; omega
          have hil : (i : Int) ≤ (l0.length : Int) := by have := HIL.out; omega
          clear hO2 hcur hsz hRT
          go_wp2
          go_ret
          exact ⟨_, rfl, HRT.out, ⟨HG.out.os.trans HB.out.os, HG.out.tape.trans HB.out.tape, HG.out.output.trans HB.out.output, Nat.le_trans HB.out.size HG.out.size, fun k hk hne => (HG.out.block k (Nat.lt_of_lt_of_le hk HB.out.size) hne).trans (HB.out.block k hk)⟩⟩
    · rw [if_neg c2] at h
      exact absurd h (by simp)

end Go.Proofs.Ytjabgjlkemfofaa.Q
