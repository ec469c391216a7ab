/- Plain lemmas on the printed functions: what they compute; conditions stand in each lemma. -/
import Derived.Test.YtjabgjlkemfofaaDoorQx16
import Derived.Test.YtjabgjlkemfofaaDoorQx20
import Derived.Test.YtjabgjlkemfofaaDoorQx21
import Derived.Test.YtjabgjlkemfofaaDoorLembase
import Derived.Test.YtjabgjlkemfofaaDoorLemin
import Derived.Test.YtjabgjlkemfofaaDoorLemstPart1
import Derived.Test.YtjabgjlkemfofaaDoorLempartsD
namespace Go.Proofs.YtjabgjlkemfofaaDoor.Lem
open Go.RowKit Go.Proofs.YtjabgjlkemfofaaDoor.Q Go.Proofs.YtjabgjlkemfofaaDoorW.PrintWords Go.Proofs.YtjabgjlkemfofaaDoorW.PrintLast Go.Proofs.YtjabgjlkemfofaaDoorW.PrintMore Go.Proofs.YtjabgjlkemfofaaDoor.Lem
set_option linter.unusedVariables false
set_option linter.unusedSimpArgs false
def sepL : List UInt8 := [44, 32]
/-- A text cut at each ", ". -/
def cutL : List UInt8 → List UInt8 → List (List UInt8)
  | cur, [] => [cur]
  | cur, [c] => [cur ++ [c]]
  | cur, c :: d :: r => if c = 44 ∧ d = 32 then cur :: cutL [] r else cutL (cur ++ [c]) (d :: r)
theorem cutL_sep (cur r : List UInt8) : cutL cur (44 :: 32 :: r) = cur :: cutL [] r := by rw [cutL, if_pos ⟨rfl, rfl⟩]
theorem cutL_cons (cur : List UInt8) (c : UInt8) (l : List UInt8) (h : ¬ (c = 44 ∧ l[0]? = some 32)) : cutL cur (c :: l) = cutL (cur ++ [c]) l := by
  cases l with
  | nil => rw [cutL, cutL]
  | cons d r => rw [cutL, if_neg (fun hh => h ⟨hh.1, by rw [hh.2]; rfl⟩)]
theorem index_sep (r : List UInt8) : Lib.index (44 :: 32 :: r) sepL = 0 := by
  rw [Lib.index, if_pos (by simp [sepL])]
theorem index_cons (c : UInt8) (l : List UInt8) (h : ¬ (c = 44 ∧ l[0]? = some 32)) : Lib.index (c :: l) sepL = if Lib.index l sepL = -1 then -1 else Lib.index l sepL + 1 := by
  have np : ¬ sepL.isPrefixOf (c :: l) = true := by
    intro hp
    have := List.isPrefixOf_iff_prefix.1 hp
    obtain ⟨t, ht⟩ := this
    unfold sepL at ht
    rw [List.cons_append, List.cons.injEq] at ht
    obtain ⟨h1, h2⟩ := ht
    exact h ⟨h1.symm, by rw [← h2]; rfl⟩
  rw [Lib.index, if_neg np]
  by_cases e : Lib.index l sepL = -1
  · rw [if_pos e, if_pos (beq_iff_eq.2 e)]
  · rw [if_neg e, if_neg (fun hh => e (beq_iff_eq.1 hh))]
theorem cut_index : ∀ (n : Nat) (l cur : List UInt8), l.length ≤ n → (Lib.index l sepL = -1 → cutL cur l = [cur ++ l]) ∧ ∀ i : Nat, Lib.index l sepL = i → cutL cur l = (cur ++ l.take i) :: cutL [] (l.drop (i + 2)) := by
  intro n
  induction n with
  | zero =>
    intro l cur hl
    have : l = [] := List.length_eq_zero_iff.1 (by omega)
    subst this
    refine ⟨fun _ => by rw [cutL, List.append_nil], fun i h => ?_⟩
    have e : Lib.index [] sepL = -1 := rfl
    omega
  | succ n ih =>
    intro l cur hl
    cases l with
    | nil =>
      refine ⟨fun _ => by rw [cutL, List.append_nil], fun i h => ?_⟩
      have e : Lib.index [] sepL = -1 := rfl
      omega
    | cons c l =>
      rw [List.length_cons] at hl
      by_cases h : c = 44 ∧ l[0]? = some 32
      · obtain ⟨rfl, h0⟩ := h
        obtain ⟨r, rfl⟩ : ∃ r, l = 32 :: r := by
          cases l with
          | nil => cases h0
          | cons d r => exact ⟨r, by simpa using h0⟩
        have e := index_sep r
        refine ⟨fun hh => by omega, fun i hi => ?_⟩
        have : i = 0 := by omega
        subst this
        rw [cutL_sep]
        simp
      · have e := index_cons c l h
        obtain ⟨ih1, ih2⟩ := ih l (cur ++ [c]) (by omega)
        rw [cutL_cons cur c l h]
        refine ⟨fun hh => ?_, fun i hi => ?_⟩
        · have := Lib.index_ge l sepL
          have e2 : Lib.index l sepL = -1 := by
            by_cases e3 : Lib.index l sepL = -1
            · exact e3
            · rw [if_neg e3] at e
              omega
          rw [ih1 e2]
          simp
        · have e2 : ¬ Lib.index l sepL = -1 := fun e3 => by
            rw [if_pos e3] at e
            omega
          rw [if_neg e2] at e
          have hg := Lib.index_ge l sepL
          obtain ⟨j, rfl⟩ : ∃ j, i = j + 1 := ⟨i - 1, by omega⟩
          rw [ih2 j (by omega)]
          simp
theorem split_cut : ∀ (n : Nat) (l : List UInt8), l.length ≤ n → Lib.split l sepL = cutL [] l := by
  intro n
  induction n with
  | zero =>
    intro l hl
    have : l = [] := List.length_eq_zero_iff.1 (by omega)
    subst this
    rfl
  | succ n ih =>
    intro l hl
    obtain ⟨h1, h2⟩ := cut_index l.length l [] (Nat.le_refl _)
    rcases Lib.index_spec l sepL with ⟨hx, _⟩ | ⟨i, hx, _⟩
    · rw [h1 hx]
      unfold Lib.split
      rw [Lib.count_miss hx]
      rfl
    · rw [h2 i hx]
      have hr := Lib.index_room l sepL (by omega)
      have hs : sepL.length = 2 := rfl
      have hd := ih (l.drop (i + 2)) (by rw [List.length_drop]; omega)
      rw [← hd]
      unfold Lib.split
      rw [Lib.count_hit (by decide) hx, hs, Nat.add_comm 1, Lib.splitK, if_neg (by
        intro hh
        have := beq_iff_eq.1 hh
        omega), hx, hs]
      rfl
theorem cut_len : ∀ (n : Nat) (l cur : List UInt8), l.length ≤ n → ((cutL cur l).map List.length).sum + 2 * (cutL cur l).length = cur.length + l.length + 2 := by
  intro n
  induction n with
  | zero =>
    intro l cur hl
    have : l = [] := List.length_eq_zero_iff.1 (by omega)
    subst this
    simp [cutL]
  | succ n ih =>
    intro l cur hl
    cases l with
    | nil => simp [cutL]
    | cons c l =>
      rw [List.length_cons] at hl
      by_cases h : c = 44 ∧ l[0]? = some 32
      · obtain ⟨rfl, h0⟩ := h
        obtain ⟨r, rfl⟩ : ∃ r, l = 32 :: r := by
          cases l with
          | nil => cases h0
          | cons d r => exact ⟨r, by simpa using h0⟩
        rw [List.length_cons] at hl
        have := ih r [] (by omega)
        rw [cutL_sep]
        simp only [List.map_cons, List.sum_cons, List.length_cons, List.length_nil] at this ⊢
        omega
      · have := ih l (cur ++ [c]) (by omega)
        rw [cutL_cons cur c l h, this]
        simp only [List.length_append, List.length_cons, List.length_nil]
        omega
theorem cut_ne (l cur : List UInt8) : cutL cur l ≠ [] := by
  intro e
  have := cut_len l.length l cur (Nat.le_refl _)
  rw [e] at this
  simp at this
def mkB (l : List UInt8) : ByteArray := ⟨l.toArray⟩
theorem toList_data (b : ByteArray) : b.toList = b.data.toList := Go.Lib.toList_data b
theorem eq_of_data {a b : ByteArray} (h : a.data.toList = b.data.toList) : a = b := by
  cases a with
  | mk a =>
    cases b with
    | mk b => exact congrArg ByteArray.mk (Array.toList_inj.1 h)
theorem mk_data (b : ByteArray) : mkB b.data.toList = b := eq_of_data rfl
/-- The pieces of a text. -/
def pieces (a : ByteArray) : List ByteArray := (cutL [] a.data.toList).map mkB
theorem split_pieces (a : ByteArray) : splitL a (⟨#[44, 32]⟩ : ByteArray) = pieces a := by
  have h : (splitL a (⟨#[44, 32]⟩ : ByteArray)).map (·.data.toList) = cutL [] a.data.toList := by
    unfold splitL
    rw [Lib.splitB_data]
    exact split_cut a.data.toList.length a.data.toList (Nat.le_refl _)
  unfold pieces
  rw [← h, List.map_map]
  exact (List.map_id'' (fun x => mk_data x) _).symm
theorem pieces_ne (a : ByteArray) : 1 ≤ (pieces a).length := by
  unfold pieces
  rw [List.length_map]
  have := cut_ne a.data.toList []
  cases h : cutL [] a.data.toList with
  | nil => exact absurd h this
  | cons x l => simp
theorem mkB_size (l : List UInt8) : (mkB l).size = l.length := rfl
theorem pieces_sum (a : ByteArray) : ((pieces a).map ByteArray.size).sum + 2 * (pieces a).length = a.size + 2 := by
  have := cut_len a.data.toList.length a.data.toList [] (Nat.le_refl _)
  have e : a.data.toList.length = a.size := rfl
  unfold pieces
  rw [List.map_map, List.length_map]
  have e2 : (ByteArray.size ∘ mkB) = List.length := rfl
  rw [e2]
  rw [e] at this
  simp only [List.length_nil] at this
  omega
theorem sum_mem (l : List ByteArray) (x : ByteArray) (h : x ∈ l) : x.size ≤ (l.map ByteArray.size).sum := by
  induction l with
  | nil => cases h
  | cons y l ih =>
    rw [List.map_cons, List.sum_cons]
    rcases List.mem_cons.1 h with rfl | h
    · omega
    · have := ih h
      omega
theorem sum_le (l : List ByteArray) (h : ∀ x ∈ l, x.size ≤ 10) : (l.map ByteArray.size).sum ≤ 10 * l.length := by
  induction l with
  | nil => simp
  | cons y l ih =>
    rw [List.map_cons, List.sum_cons, List.length_cons]
    have h1 := h y List.mem_cons_self
    have := ih (fun x hx => h x (List.mem_cons_of_mem _ hx))
    omega
theorem nmB_size {b : ByteArray} (h : nmB b = true) : 1 ≤ b.size ∧ b.size ≤ 10 := by
  unfold nmB at h
  rw [Bool.and_eq_true, decide_eq_true_eq] at h
  omega
theorem names_each {l : List ByteArray} (h : namesB l = true) : ∀ x ∈ l, nmB x = true := by
  intro x hx
  unfold namesB at h
  rw [Bool.and_eq_true] at h
  obtain ⟨i, hi, rfl⟩ := List.mem_iff_getElem.1 hx
  have := List.all_eq_true.1 h.1 i (List.mem_range.2 hi)
  unfold okN at this
  rw [Bool.and_eq_true] at this
  have e : l.getD i ByteArray.empty = l[i] := by simp [List.getD_eq_getElem?_getD, hi]
  rw [e] at this
  exact this.1
theorem names_short (a : ByteArray) (h : namesB (pieces a) = true) : a.size ≤ 150 := by
  have h1 := pieces_sum a
  have h2 := sum_le (pieces a) (fun x hx => (nmB_size (names_each h x hx)).2)
  unfold namesB at h
  rw [Bool.and_eq_true, decide_eq_true_eq] at h
  omega
theorem read_room (n s z k : Nat) (h : s + 2 * n = z + 2) (hz : z ≤ 1048576) (hk : 4000000 < k) : n ≤ 1000000000 ∧ n + (n + 1048578) + 1 < k := by omega
theorem read_impl (a : ByteArray) (ha : a.size ≤ 1048576) (k : Nat) (hk : 4000000 < k) : impl_ReadLabel.f k a = some (if namesB (pieces a) = true then (pieces a, true) else ([], false)) := by
  have h1 := pieces_sum a
  obtain ⟨r1, r2⟩ := read_room _ _ _ k h1 ha hk
  have hB : ∀ x ∈ pieces a, x.size ≤ 1048578 := fun x hx => by
    have := sum_mem (pieces a) x hx
    omega
  have hn := names_impl (pieces a) r1 1048578 hB (by decide) k r2
  unfold impl_ReadLabel.f strings_Split.f
  have e2 : (⟨#[44, 32]⟩ : ByteArray).size = 2 := rfl
  rw [if_pos (by omega), if_pos (by rw [e2]; omega), split_pieces]
  simp only [Option.bind_some]
  rw [hn]
  simp only [Option.bind_some]
  split <;> rfl
/-! ### the reference -/
def bad (o : List ByteArray) (x : ByteArray) : Bool := o.any (fun y => decide (y.toList = x.toList)) || !nmB x || decide (o.length = 12)
def chk : List ByteArray → List ByteArray → List ByteArray × Bool
  | o, [] => (o, true)
  | o, x :: xs => if bad o x = true then ([], false) else chk (o ++ [x]) xs
theorem piece_loop (a : ByteArray) (o : List ByteArray) (pos : Int) (x : ByteArray) (ho : o.length ≤ 12) (hx : x.size ≤ 150) : ∀ (d i f : Nat), i + d = o.length → d + 200 < f →
    ∃ f', f ≤ f' + d + 1 ∧ spec_ReadLabel.l1 f a o pos x (i : Int) = if ((o.drop i).any (fun y => decide (y.toList = x.toList)) || !nmB x || decide (o.length = 12)) = true then some ([], false) else spec_ReadLabel.l0 f' a (o ++ [x]) (wrap64 (pos + 2)) (wrap64 (pos + 1)) := by
  intro d
  induction d with
  | zero =>
    intro i f hi hf
    obtain ⟨f, rfl⟩ : ∃ m, f = m + 1 := ⟨f - 1, by omega⟩
    refine ⟨f, by omega, ?_⟩
    have e : o.drop i = [] := List.drop_eq_nil_iff.2 (by omega)
    rw [spec_ReadLabel.l1, if_neg (by omega), nm_spec x (by omega) f (by omega), e]
    simp only [Option.bind_some]
    by_cases hn : nmB x = true
    · rw [if_pos hn, hn]
      by_cases h12 : o.length = 12
      · rw [if_pos (by omega), decide_eq_true h12]
        rfl
      · rw [if_neg (by omega), decide_eq_false h12, if_pos (by omega)]
        rfl
    · rw [if_neg hn, Bool.eq_false_iff.2 hn]
      rfl
  | succ d ih =>
    intro i f hi hf
    obtain ⟨f, rfl⟩ : ∃ m, f = m + 1 := ⟨f - 1, by omega⟩
    have hil : i < o.length := by omega
    have er : rdOf ByteArray.empty o (i : Int) = o[i] := by simp [rdOf, List.getD_eq_getElem?_getD, hil]
    rw [spec_ReadLabel.l1, if_pos (by omega), if_pos (by omega), er, List.drop_eq_getElem_cons hil, List.any_cons]
    by_cases h : o[i].toList = x.toList
    · rw [if_pos h, decide_eq_true h]
      exact ⟨f, by omega, rfl⟩
    · rw [if_neg h, decide_eq_false h, Bool.false_or, w64 (n := (i : Int) + 1) (by omega) (by omega)]
      obtain ⟨f', h1, h2⟩ := ih (i + 1) f (by omega) (by omega)
      refine ⟨f', by omega, ?_⟩
      rw [← h2]
      rfl
theorem bt_list (a : ByteArray) (k : Nat) (h : k < a.size) : bt a (k : Int) = ((a.data.toList[k]'h).toNat : Int) := by
  unfold bt
  rw [dif_pos (by rw [Int.toNat_natCast]; exact h)]
  rfl
theorem extract_list (a : ByteArray) (b k : Nat) : a.extract b k = mkB ((a.data.toList.take k).drop b) := by
  apply eq_of_data
  simp [mkB, ByteArray.data_extract, List.take_drop]
  rw [List.drop_take, List.drop_take, Nat.add_sub_cancel_left]
theorem read_loop (a : ByteArray) (ha : a.size ≤ 150) : ∀ (n d k b : Nat) (o : List ByteArray) (f : Nat), d ≤ n → k + d = a.size → b ≤ k → o.length ≤ 12 → 300 + 40 * d < f →
    spec_ReadLabel.l0 f a o (b : Int) (k : Int) = some (chk o ((cutL ((a.data.toList.take k).drop b) (a.data.toList.drop k)).map mkB)) := by
  intro n
  induction n with
  | zero =>
    intro d k b o f hd hk hb ho hf
    have hkk : k = a.size := by omega
    obtain ⟨f, rfl⟩ : ∃ m, f = m + 1 + 1 := ⟨f - 2, by omega⟩
    have el : a.data.toList.length = a.size := rfl
    have e : a.data.toList.drop k = [] := List.drop_eq_nil_iff.2 (by omega)
    have em : mn (b : Int) (k : Int) = (b : Int) := by unfold mn; rw [if_neg (by omega)]
    rw [spec_ReadLabel.l0, if_pos (by omega), if_pos (by omega), spec_ReadLabel.j1, if_neg (by simp), em, if_pos (by omega), if_pos (by omega), if_pos (by omega), Int.toNat_natCast, Int.toNat_natCast, extract_list, e, cutL]
    obtain ⟨f', h1, h2⟩ := piece_loop a o (k : Int) (mkB ((a.data.toList.take k).drop b)) ho (by rw [mkB_size, List.length_drop, List.length_take]; omega) o.length 0 f (by omega) (by omega)
    have h3 := h2
    rw [List.drop_zero] at h3
    have e0 : ((0 : Nat) : Int) = 0 := rfl
    rw [e0] at h3
    rw [h3, List.map_cons, List.map_nil, chk]
    unfold bad
    split
    · rfl
    · obtain ⟨f', rfl⟩ : ∃ m, f' = m + 1 := ⟨f' - 1, by omega⟩
      rw [w64 (n := (k : Int) + 1) (by omega) (by omega), spec_ReadLabel.l0, if_neg (by omega)]
      rfl
  | succ n ih =>
    intro d k b o f hd hk hb ho hf
    by_cases hd0 : d ≤ n
    · exact ih d k b o f hd0 hk hb ho hf
    have hkl : k < a.size := by omega
    have el : a.data.toList.length = a.size := rfl
    obtain ⟨f, rfl⟩ : ∃ m, f = m + 1 + 1 := ⟨f - 2, by omega⟩
    have ec : a.data.toList.drop k = a.data.toList[k] :: a.data.toList.drop (k + 1) := List.drop_eq_getElem_cons hkl
    have et : (a.data.toList.take (k + 1)).drop b = (a.data.toList.take k).drop b ++ [a.data.toList[k]] := by
      rw [List.take_succ_eq_append_getElem hkl, List.drop_append_of_le_length (by rw [List.length_take]; omega)]
    have e1 : (k : Int) + 1 = ((k + 1 : Nat) : Int) := by omega
    have go : ∀ f', 300 + 40 * (d - 1) < f' → ¬ (a.data.toList[k] = 44 ∧ (a.data.toList.drop (k + 1))[0]? = some 32) → spec_ReadLabel.l0 f' a o (b : Int) (wrap64 ((k : Int) + 1)) = some (chk o ((cutL ((a.data.toList.take k).drop b) (a.data.toList.drop k)).map mkB)) := by
      intro f' hf' hno
      rw [w64 (n := (k : Int) + 1) (by omega) (by omega), e1, ih (d - 1) (k + 1) b o f' (by omega) (by omega) (by omega) ho hf', ec, cutL_cons _ _ _ hno, et]
    have hbt := bt_list a k hkl
    rw [spec_ReadLabel.l0, if_pos (by omega), if_neg (by omega), if_pos (by omega), if_pos (by omega), hbt]
    by_cases h44 : a.data.toList[k] = 44
    · have e44 : ((a.data.toList[k].toNat : Nat) : Int) = 44 := by rw [h44]; rfl
      rw [if_pos e44, w64 (n := (k : Int) + 1) (by omega) (by omega), e1]
      by_cases hend : k + 1 = a.size
      · rw [if_pos (by omega), spec_ReadLabel.j1, if_pos rfl]
        refine go f (by omega) (fun hh => ?_)
        rw [List.drop_eq_nil_iff.2 (by omega)] at hh
        cases hh.2
      · rw [if_neg (by omega), if_pos (by omega), if_pos (by omega)]
        have hk1 : k + 1 < a.size := by omega
        have hbt1 := bt_list a (k + 1) hk1
        have ec1 : a.data.toList.drop (k + 1) = a.data.toList[k + 1] :: a.data.toList.drop (k + 2) := List.drop_eq_getElem_cons hk1
        rw [hbt1]
        by_cases h32 : a.data.toList[k + 1] = 32
        · have e32 : ((a.data.toList[k + 1].toNat : Nat) : Int) = 32 := by rw [h32]; rfl
          have em : mn (b : Int) (k : Int) = (b : Int) := by unfold mn; rw [if_neg (by omega)]
          rw [e32, show ((32 : Int) != 32) = false from rfl, spec_ReadLabel.j1, if_neg (by simp), em, if_pos (by omega), if_pos (by omega), if_pos (by omega), Int.toNat_natCast, Int.toNat_natCast, extract_list, ec, ec1, h44, h32, cutL_sep]
          obtain ⟨f', h1, h2⟩ := piece_loop a o (k : Int) (mkB ((a.data.toList.take k).drop b)) ho (by rw [mkB_size, List.length_drop, List.length_take]; omega) o.length 0 f (by omega) (by omega)
          have h3 := h2
          rw [List.drop_zero] at h3
          have e0 : ((0 : Nat) : Int) = 0 := rfl
          rw [e0] at h3
          rw [h3, List.map_cons, chk]
          unfold bad
          split
          · rfl
          · rename_i hnb
            have h12 : ¬ o.length = 12 := fun h => hnb (by rw [decide_eq_true h]; simp)
            obtain ⟨f', rfl⟩ : ∃ m, f' = m + 1 + 1 := ⟨f' - 2, by omega⟩
            have e2 : (k : Int) + 2 = ((k + 2 : Nat) : Int) := by omega
            have e3 : ((k + 1 : Nat) : Int) + 1 = ((k + 2 : Nat) : Int) := by omega
            rw [w64 (n := (k : Int) + 1) (by omega) (by omega), w64 (n := (k : Int) + 2) (by omega) (by omega), e1, e2, spec_ReadLabel.l0, if_pos (by omega), if_neg (by omega), if_pos (by omega), if_pos (by omega), hbt1, e32, if_neg (by decide), spec_ReadLabel.j1, if_pos rfl, w64 (n := ((k + 1 : Nat) : Int) + 1) (by omega) (by omega), e3,
              ih (d - 2) (k + 2) (k + 2) (o ++ [mkB ((a.data.toList.take k).drop b)]) f' (by omega) (by omega) (Nat.le_refl _) (by rw [List.length_append, List.length_singleton]; omega) (by omega)]
            have ez : (a.data.toList.take (k + 2)).drop (k + 2) = [] := List.drop_eq_nil_iff.2 (by rw [List.length_take]; omega)
            rw [ez]
        · have n32 : ¬ ((a.data.toList[k + 1].toNat : Nat) : Int) = 32 := fun h => h32 (UInt8.toNat_inj.1 (by rw [show (32 : UInt8).toNat = 32 from rfl]; omega))
          rw [show (((a.data.toList[k + 1].toNat : Nat) : Int) != 32) = true from bne_iff_ne.2 n32, spec_ReadLabel.j1, if_pos rfl]
          refine go f (by omega) (fun hh => ?_)
          rw [ec1] at hh
          exact h32 (by simpa using hh.2)
    · have n44 : ¬ ((a.data.toList[k].toNat : Nat) : Int) = 44 := fun h => h44 (UInt8.toNat_inj.1 (by rw [show (44 : UInt8).toNat = 44 from rfl]; omega))
      rw [if_neg n44, spec_ReadLabel.j1, if_pos rfl]
      exact go f (by omega) (fun hh => h44 hh.1)
theorem okN_app (o : List ByteArray) (r : List ByteArray) (i : Nat) (h : i < o.length) : okN (o ++ r) i = okN o i := by
  unfold okN
  rw [List.getD_eq_getElem?_getD, List.getElem?_append_left h, List.take_append_of_le_length (by omega), ← List.getD_eq_getElem?_getD]
theorem okN_at (o : List ByteArray) (x : ByteArray) (r : List ByteArray) : okN (o ++ x :: r) o.length = (nmB x && !o.any (fun y => decide (y.toList = x.toList))) := by
  unfold okN
  have e : (o ++ x :: r).getD o.length ByteArray.empty = x := by
    rw [List.getD_eq_getElem?_getD, List.getElem?_append_right (Nat.le_refl _), Nat.sub_self]
    rfl
  have e2 : (o ++ x :: r).take o.length = o := by rw [List.take_append_of_le_length (Nat.le_refl _), List.take_length]
  rw [e, e2]
  congr 2
  congr 1
  funext y
  exact decide_eq_decide.2 ⟨Eq.symm, Eq.symm⟩
def namesR (l : List ByteArray) : Bool := (List.range l.length).all (okN l) && decide (l.length ≤ 12)
theorem chk_ok : ∀ (xs o : List ByteArray), o.length ≤ 12 → (∀ i, i < o.length → okN o i = true) → chk o xs = if namesR (o ++ xs) = true then (o ++ xs, true) else ([], false)
  | [], o, ho, hk => by
    have : namesR (o ++ []) = true := by
      unfold namesR
      rw [List.append_nil, decide_eq_true ho, Bool.and_true, List.all_eq_true]
      exact fun i hi => hk i (List.mem_range.1 hi)
    rw [chk, if_pos this, List.append_nil]
  | x :: xs, o, ho, hk => by
    rw [chk]
    have hat := okN_at o x xs
    by_cases hb : bad o x = true
    · rw [if_pos hb]
      have hn : ¬ namesR (o ++ x :: xs) = true := by
        intro h
        unfold namesR at h
        rw [Bool.and_eq_true, decide_eq_true_eq, List.all_eq_true] at h
        have h1 := h.1 o.length (List.mem_range.2 (by rw [List.length_append, List.length_cons]; omega))
        rw [hat, Bool.and_eq_true] at h1
        have h2 := h.2
        rw [List.length_append, List.length_cons] at h2
        unfold bad at hb
        rw [h1.1, (by simpa using h1.2 : o.any (fun y => decide (y.toList = x.toList)) = false), decide_eq_false (by omega : ¬ o.length = 12)] at hb
        simp at hb
      rw [if_neg hn]
    · have hb' := Bool.eq_false_iff.2 hb
      unfold bad at hb'
      simp only [Bool.or_eq_false_iff, Bool.not_eq_false', decide_eq_false_iff_not] at hb'
      obtain ⟨⟨h1, h2⟩, h3⟩ := hb'
      rw [if_neg hb]
      have e : o ++ [x] ++ xs = o ++ x :: xs := by simp
      rw [chk_ok xs (o ++ [x]) (by rw [List.length_append, List.length_singleton]; omega) (fun i hi => by
        rw [List.length_append, List.length_singleton] at hi
        by_cases h : i < o.length
        · rw [okN_app o [x] i h]
          exact hk i h
        · have : i = o.length := by omega
          subst this
          rw [okN_at o x [], h1, h2]
          rfl), e]
theorem names_R (l : List ByteArray) (h : 1 ≤ l.length) : namesR l = namesB l := by
  unfold namesR namesB
  congr 1
  exact decide_eq_decide.2 ⟨fun _ => by omega, fun _ => by omega⟩
theorem read_spec (a : ByteArray) (k : Nat) (hk : 7000 < k) : spec_ReadLabel.f k a = some (if namesB (pieces a) = true then (pieces a, true) else ([], false)) := by
  unfold spec_ReadLabel.f
  simp only [Option.bind_some]
  by_cases h : a.size ≤ 150
  · rw [if_neg (by omega)]
    have h2 := read_loop a h a.size a.size 0 0 [] k (Nat.le_refl _) (by omega) (Nat.le_refl _) (by simp) (by omega)
    have e0 : ((0 : Nat) : Int) = 0 := rfl
    rw [e0, List.take_zero, List.drop_zero] at h2
    have e1 : (a.data.toList.drop 0) = a.data.toList := List.drop_zero
    try rw [e1] at h2
    rw [h2, chk_ok _ [] (by simp) (fun i hi => by simp at hi), List.nil_append]
    have ep : (cutL [] a.data.toList).map mkB = pieces a := rfl
    rw [ep, names_R _ (pieces_ne a)]
  · rw [if_pos (by omega), if_neg (fun hh => h (names_short a hh))]

end Go.Proofs.YtjabgjlkemfofaaDoor.Lem
