/- FnLabels: a label names the most first, and can be read back, at every code; no condition. -/
import Derived.Test.YtjabgjlkemfofaaDoorQx0
import Derived.Test.YtjabgjlkemfofaaDoorQx8
import Derived.Test.YtjabgjlkemfofaaDoorQx16
import Derived.Test.YtjabgjlkemfofaaDoorQx17
import Derived.Test.YtjabgjlkemfofaaDoorQx18
import Derived.Test.YtjabgjlkemfofaaDoorQx19
import Derived.Test.YtjabgjlkemfofaaDoorLemlabN
namespace Go.Proofs.YtjabgjlkemfofaaDoor.Pure
open Go.RowKit Go.Proofs.YtjabgjlkemfofaaDoor.Q Go.Proofs.YtjabgjlkemfofaaDoorW.PrintWords Go.Proofs.YtjabgjlkemfofaaDoorW.PrintLast Go.Proofs.YtjabgjlkemfofaaDoorW.PrintMore Go.Proofs.YtjabgjlkemfofaaDoor.Lem
set_option linter.unusedVariables false
set_option linter.unusedSimpArgs false
theorem small_size (N : List ByteArray) (t : ByteArray) (h : pieces t = N) (h1 : ∀ x ∈ N, x.size ≤ 10) (h2 : N.length ≤ 14) : t.size ≤ 1048576 := by
  have a := pieces_sum t
  rw [h] at a
  have b := sum_le N h1
  omega
theorem FnLabels : laws_FnLabels.Pure := by
  intro code ⟨hl, hw⟩
  unfold maxLen at hl
  obtain ⟨K, hK⟩ : ∃ K, 6000000 < K := ⟨_, Nat.lt_succ_self _⟩
  refine ⟨((K + 1 + 20) + 1 + 20) + 1, ?_⟩
  unfold laws_FnLabels.f
  rw [big_eq]
  simp only [Option.bind_some]
  by_cases hb : (code.length : Int) > 1048576
  · rw [decide_eq_true hb, if_pos rfl]
  rw [decide_eq_false hb, if_neg (by simp)]
  obtain ⟨L, e1, hok, hL6⟩ := draw_parts code (by omega) (((K + 1 + 20) + 1 + 20) + 1) (by omega)
  rw [e1]
  simp only [Option.bind_some]
  obtain ⟨hL1, _, hA⟩ := ok_len hok
  have hnm := parts_names hok
  have hsz : ∀ x ∈ L, x.f0.size ≤ 10 := fun x hx => (nmB_size (names_each hnm _ (List.mem_map.2 ⟨x, hx, rfl⟩))).2
  have hsort : sorted L = sortL L := if_pos hok
  have hperm := sort_perm L
  have hSL : (sortL L).length = L.length := hperm.length_eq
  have hSn := sort_names hok
  have hSs := sort_sorted hok
  have hSA : ∀ y ∈ sortL L, amB y = true := fun y hy => hA y (hperm.mem_iff.1 hy)
  have hlab : labelB L = joinB ((sortL L).map S26.f0) sepB := by
    unfold labelB
    rw [hsort]
  obtain ⟨N, hN⟩ : ∃ N, N = (sortL L).map S26.f0 := ⟨_, rfl⟩
  rw [← hN] at hSn hlab
  have hNl : N.length = L.length := by rw [hN, List.length_map, hSL]
  have hNe : N ≠ [] := fun e => by
    rw [e, List.length_nil] at hNl
    omega
  have hNno : ∀ x ∈ N, ∀ c ∈ x.data.toList, c ≠ 44 := fun x hx => nm_no x (names_each hSn x hx)
  have hN10 : ∀ x ∈ N, x.size ≤ 10 := fun x hx => (nmB_size (names_each hSn x hx)).2
  obtain ⟨t, ht⟩ : ∃ t, t = labelB L := ⟨_, rfl⟩
  rw [← ht] at hlab
  have hpt : pieces t = N := by rw [hlab]; exact pieces_join N hNe hNno
  have hts : t.size ≤ 1048576 := small_size N t hpt hN10 (by omega)
  have e2 : ∀ j, 4000000 < j → impl_SortedParts.f j L = some (sortL L) := fun j hj => by rw [sorted_impl L (by omega) 10 hsz (by omega) j (by omega), hsort]
  have e3 : ∀ j, 4000000 < j → impl_LabelText.f j L = some t := fun j hj => by rw [label_impl L (by omega) 10 hsz (by omega) j (by omega), ht]
  have e4 : ∀ j, 4000000 < j → impl_ReadLabel.f j t = some (N, true) := fun j hj => by rw [read_impl t hts j hj, hpt, if_pos hSn]
  -- the text with ", " behind it
  have hE : impl_ReadLabel.f (K + 0) (t ++ (⟨#[44, 32]⟩ : ByteArray)) = some ([], false) := by
    have ej : t ++ (⟨#[44, 32]⟩ : ByteArray) = joinB (N ++ [ByteArray.empty]) sepB := by
      rw [← join_more N hNe ByteArray.empty, hlab]
      apply eq_of_data
      rw [ByteArray.data_append, ByteArray.data_append, ByteArray.data_append, Array.toList_append, Array.toList_append, Array.toList_append]
      simp
    have hp : pieces (t ++ (⟨#[44, 32]⟩ : ByteArray)) = N ++ [ByteArray.empty] := by
      rw [ej]
      refine pieces_join _ (by simp) (fun x hx c hc => ?_)
      rcases List.mem_append.1 hx with hx | hx
      · exact hNno x hx c hc
      · rw [List.mem_singleton.1 hx] at hc
        simp at hc
    rw [read_impl _ (small_size _ _ hp (fun x hx => by
      rcases List.mem_append.1 hx with hx | hx
      · exact hN10 x hx
      · rw [List.mem_singleton.1 hx]
        exact Nat.zero_le _) (by rw [List.length_append, List.length_singleton]; omega)) (K + 0) (by omega), hp, if_neg]
    intro hh
    have := nmB_size (names_each hh ByteArray.empty (by simp))
    have e0 : ByteArray.empty.size = 0 := rfl
    omega
  obtain ⟨n0, r0, hn0⟩ : ∃ n0 r0, N = n0 :: r0 := by
    cases N with
    | nil => exact absurd rfl hNe
    | cons a b => exact ⟨a, b, rfl⟩
  have hT : impl_ReadLabel.f (K + 0) ((t ++ (⟨#[44, 32]⟩ : ByteArray)) ++ n0) = some ([], false) := by
    have hmem : n0 ∈ N := by rw [hn0]; exact List.mem_cons_self
    have hp : pieces ((t ++ (⟨#[44, 32]⟩ : ByteArray)) ++ n0) = N ++ [n0] := by
      rw [hlab, join_more N hNe n0]
      refine pieces_join _ (by simp) (fun x hx c hc => ?_)
      rcases List.mem_append.1 hx with hx | hx
      · exact hNno x hx c hc
      · rw [List.mem_singleton.1 hx] at hc
        exact hNno n0 hmem c hc
    rw [read_impl _ (small_size _ _ hp (fun x hx => by
      rcases List.mem_append.1 hx with hx | hx
      · exact hN10 x hx
      · rw [List.mem_singleton.1 hx]
        exact hN10 n0 hmem) (by rw [List.length_append, List.length_singleton]; omega)) (K + 0) (by omega), hp, if_neg]
    intro hh
    have h2 := ((names_iff _).1 hh).2.1
    rw [List.pairwise_append] at h2
    exact h2.2.2 n0 hmem n0 (by simp) rfl
  rw [e2 _ (by omega)]
  simp only [Option.bind_some]
  rw [e3 _ (by omega)]
  simp only [Option.bind_some]
  rw [e4 _ (by omega)]
  simp only [Option.bind_some]
  rw [if_pos (by omega), if_pos trivial]
  have eb : ((N.length : Int) != (L.length : Int)) = false := by
    rw [hNl]
    simp
  rw [eb, laws_FnLabels.j0, if_neg (by simp)]
  have h0 := loop0 code L (sortL L) t N hSL (by omega) hN hSs hA L.length 0 (((K + 1 + 20) + 1 + 20) - L.length) (by omega)
  rw [List.take_zero, show (((K + 1 + 20) + 1 + 20) - L.length) + L.length = ((K + 1 + 20) + 1 + 20) by omega] at h0
  have es0 : sumG ([] : List S26) = 0 := rfl
  have e0 : ((0 : Nat) : Int) = 0 := rfl
  rw [es0, e0] at h0
  rw [h0]
  obtain ⟨q, hq⟩ : ∃ q, ((K + 1 + 20) + 1 + 20) - L.length = q + 1 ∧ K + 21 ≤ q := ⟨((K + 1 + 20) + 1 + 20) - L.length - 1, by omega, by omega⟩
  obtain ⟨hq, hqK⟩ := hq
  rw [hq, laws_FnLabels.l0, if_neg (by omega)]
  obtain ⟨v, hv, hv0, hv1⟩ := at_ok code 0 (by omega) (by omega) (by omega) hw
  rw [hv]
  simp only [Option.bind_some]
  obtain ⟨p, hp, hp0, hp1⟩ : ∃ p, Int.tmod v 101 = p ∧ 0 ≤ p ∧ p ≤ 100 := ⟨_, rfl, by rw [Int.tmod_eq_emod_of_nonneg hv0]; omega, by rw [Int.tmod_eq_emod_of_nonneg hv0]; omega⟩
  have em : ∀ (c : Int) j, 4000000 < j → impl_MustName.f j L c = some (mustL L c) := fun c j hj => must_impl L c (by omega) 10 hsz (by omega) j (by omega)
  rw [hp, em p q (by omega)]
  simp only [Option.bind_some]
  have hsum := sumG_bd L hA
  have hsum2 : 0 ≤ sumG L ∧ sumG L ≤ 1200000 := by omega
  have hpair : (sortL L).Pairwise (fun a b => big p (sumG L) b = true → big p (sumG L) a = true) := by
    refine hSs.imp (fun {a b} hab hb => ?_)
    rw [ahead_iff] at hab
    unfold big at hb ⊢
    rw [decide_eq_true_eq] at hb ⊢
    omega
  obtain ⟨f1, f2⟩ := filter_take (big p (sumG L)) (sortL L) hpair
  have hm : mustL L p = ((sortL L).filter (big p (sumG L))).map S26.f0 := if_pos ⟨hok, hp0, hp1⟩
  have hml : (mustL L p).length = ((sortL L).filter (big p (sumG L))).length := by rw [hm, List.length_map]
  have hfl : ((sortL L).filter (big p (sumG L))).length ≤ (sortL L).length := List.length_filter_le _ _
  rw [if_neg (by omega)]
  have h1 := loop1 L (sortL L) t N (mustL L p) (sumG L) p ⟨hp0, hp1⟩ hsum2 (by omega) hSA
    (fun i hi => by rw [hml]; exact f2 i hi)
    (fun i hi hi2 => by
      have hi3 : i < ((sortL L).filter (big p (sumG L))).length := by omega
      have e : (mustL L p)[i]'hi2 = (sortL L)[i].f0 := by
        have : mustL L p = ((sortL L).take ((sortL L).filter (big p (sumG L))).length).map S26.f0 := by rw [← f1, hm]
        simp only [this, List.getElem_map, List.getElem_take]
      simp only [rdOf, Int.toNat_natCast, List.getD_eq_getElem?_getD, List.getElem?_eq_getElem hi2, Option.getD_some]
      exact e) (sortL L).length 0 (K + 1 + (q - (K + 1) - (sortL L).length)) (by omega)
  rw [show K + 1 + (q - (K + 1) - (sortL L).length) + (sortL L).length = q by omega, e0] at h1
  rw [h1]
  obtain ⟨z, hz⟩ : ∃ z, K + 1 + (q - (K + 1) - (sortL L).length) = z + 1 ∧ K ≤ z := ⟨K + (q - (K + 1) - (sortL L).length), by omega, by omega⟩
  obtain ⟨hz, hzK⟩ := hz
  rw [hz, laws_FnLabels.l1, if_neg (by omega), if_pos (by omega)]
  have mono : ∀ a, impl_ReadLabel.f K a = some ([], false) → a.size ≤ 1048576 → impl_ReadLabel.f z a = some ([], false) := fun a ha hs => by
    rw [read_impl a hs K (by omega)] at ha
    rw [read_impl a hs z (by omega), ha]
  have sE : (t ++ (⟨#[44, 32]⟩ : ByteArray)).size = t.size + 2 := by rw [ByteArray.size_append]; rfl
  have hts2 : t.size ≤ 1000 := by
    have a := pieces_sum t
    rw [hpt] at a
    have b := sum_le N hN10
    omega
  have hn10 : n0.size ≤ 10 := hN10 n0 (by rw [hn0]; exact List.mem_cons_self)
  have er0 : rdOf ByteArray.empty N 0 = n0 := by rw [hn0]; rfl
  rw [mono _ hE (by rw [sE]; omega)]
  simp only [Option.bind_some]
  rw [if_pos (by omega), er0, if_pos (by rw [sE]; omega), mono _ hT (by rw [ByteArray.size_append, sE]; omega)]
  simp only [Option.bind_some]
  rw [if_neg (by simp), if_neg (by simp), parts_impl L (by omega) 10 hsz (by omega) z (by omega), hok]
  simp only [Option.bind_some]
  rw [if_pos trivial, em 0 z (by omega)]
  simp only [Option.bind_some]
  have hm0 : (mustL L 0).length = L.length := by
    have e : mustL L 0 = ((sortL L).filter (big 0 (sumG L))).map S26.f0 := if_pos ⟨hok, by omega, by omega⟩
    have ef : (sortL L).filter (big 0 (sumG L)) = sortL L := List.filter_eq_self.2 (fun x hx => by
      have := amB_bd (hSA x hx)
      unfold big
      rw [decide_eq_true_eq]
      omega)
    rw [e, List.length_map, ef, hSL]
  rw [if_pos (by omega)]
  obtain ⟨r, hr1, hr2⟩ := percent_rye z (by omega)
  rw [hr1]
  simp only [Option.bind_some]
  rw [hr2]
  rfl

end Go.Proofs.YtjabgjlkemfofaaDoor.Pure
