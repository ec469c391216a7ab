/- Plain lemmas on the printed functions: what they compute; conditions stand in each lemma. -/
import Derived.Test.YtjabgjlkemfofaaDoorQx0
import Derived.Test.YtjabgjlkemfofaaDoorQx1
import Derived.Test.YtjabgjlkemfofaaDoorQx2
import Derived.Test.YtjabgjlkemfofaaDoorQx5
import Derived.Test.YtjabgjlkemfofaaDoorQx6
import Derived.Test.YtjabgjlkemfofaaDoorQx7
import Derived.Test.YtjabgjlkemfofaaDoorQx8
import Derived.Test.YtjabgjlkemfofaaDoorQx9
import Derived.Test.YtjabgjlkemfofaaDoorLembase
import Derived.Test.YtjabgjlkemfofaaDoorLemin
import Derived.Test.YtjabgjlkemfofaaDoorLemstPart1
namespace Go.Proofs.YtjabgjlkemfofaaDoor.Lem
open Go.RowKit Go.Proofs.YtjabgjlkemfofaaDoor.Q Go.Proofs.YtjabgjlkemfofaaDoorW.PrintWords Go.Proofs.YtjabgjlkemfofaaDoorW.PrintLast Go.Proofs.YtjabgjlkemfofaaDoorW.PrintMore Go.Proofs.YtjabgjlkemfofaaDoor.Lem
set_option linter.unusedVariables false
set_option linter.unusedSimpArgs false
/-- A name of one to ten small letters. -/
def nmB (b : ByteArray) : Bool := (List.range b.size).all (fun i => decide (97 ≤ bt b i ∧ bt b i ≤ 122)) && decide (1 ≤ (b.size : Int) ∧ (b.size : Int) ≤ 10)
theorem nm_spec (b : ByteArray) (hb : b.size ≤ 9223372036854775807) (k : Nat) (hk : b.size < k) : spec_l28Name.f k b = some (nmB b) := by
  unfold spec_l28Name.f nmB
  have := run_all (fun k i => spec_l28Name.l0 k b i) b.size hb (fun i => decide (97 ≤ bt b i ∧ bt b i ≤ 122)) false (some (decide (1 ≤ (b.size : Int) ∧ (b.size : Int) ≤ 10)))
    (fun k i hi => by
      simp only [spec_l28Name.l0]
      rw [if_pos (by omega), if_pos (by omega)]
      by_cases h1 : bt b i < 97
      · rw [if_pos h1, if_neg (by simp; omega)]
      · rw [if_neg h1]
        by_cases h2 : bt b i > 122
        · rw [if_pos h2, if_neg (by simp; omega)]
        · rw [if_neg h2, if_pos (by simp; omega)])
    (fun k => by
      simp only [spec_l28Name.l0]
      rw [if_neg (by omega), in_spec]
      rfl) k hk
  exact this.trans (by cases (List.range b.size).all _ <;> simp)
theorem nm_impl (b : ByteArray) (hb : b.size ≤ 9223372036854775807) (k : Nat) (hk : b.size < k) : impl_nameOk.f k b = some (nmB b) := by
  unfold impl_nameOk.f nmB
  have := run_all (fun k i => impl_nameOk.l0 k b b.size i) b.size hb (fun i => decide (97 ≤ bt b i ∧ bt b i ≤ 122)) false (some (decide (1 ≤ (b.size : Int) ∧ (b.size : Int) ≤ 10)))
    (fun k i hi => by
      simp only [impl_nameOk.l0]
      rw [if_pos (by omega), if_pos (by omega), if_pos (by omega)]
      by_cases h1 : bt b i < 97
      · rw [if_pos h1, if_neg (by simp; omega)]
      · rw [if_neg h1]
        by_cases h2 : bt b i > 122
        · rw [if_pos h2, if_neg (by simp; omega)]
        · rw [if_neg h2, if_pos (by simp; omega)])
    (fun k => by
      simp only [impl_nameOk.l0]
      rw [if_neg (by omega), in_impl]
      rfl) k hk
  exact this.trans (by cases (List.range b.size).all _ <;> simp)
theorem contains_ok (l : List ByteArray) (v : ByteArray) (hl : l.length ≤ 1000000000) (k : Nat) (hk : l.length < k) : slices_Contains_string_string.f k l v = some (l.any (fun x => decide (v.toList = x.toList))) := by
  unfold slices_Contains_string_string.f slices_Index_string_string.f
  have key : ∀ (d k i : Nat), i + d = l.length → d < k → ∃ r, slices_Index_string_string.l0 k l v l.length i = some r ∧ decide (r ≥ 0) = (l.drop i).any (fun x => decide (v.toList = x.toList)) := by
    intro d
    induction d with
    | zero =>
      intro k i hi hk
      obtain ⟨k, rfl⟩ : ∃ m, k = m + 1 := ⟨k - 1, by omega⟩
      simp only [slices_Index_string_string.l0]
      rw [if_neg (by omega), List.drop_eq_nil_of_le (by omega)]
      exact ⟨_, rfl, rfl⟩
    | succ d ih =>
      intro k i hi hk
      obtain ⟨k, rfl⟩ : ∃ m, k = m + 1 := ⟨k - 1, by omega⟩
      have hi2 : i < l.length := by omega
      have er : rdOf ByteArray.empty l (i : Int) = l[i] := by simp [rdOf, List.getD_eq_getElem?_getD, hi2]
      simp only [slices_Index_string_string.l0]
      rw [if_pos (by omega), if_pos (by omega), if_pos (by omega), er, List.drop_eq_getElem_cons hi2, List.any_cons]
      by_cases h : v.toList = l[i].toList
      · rw [if_pos h]
        exact ⟨_, rfl, by simp [h]⟩
      · rw [if_neg h, w64s (n := l.length) (by omega) (by omega) (by omega)]
        obtain ⟨r, er, hr⟩ := ih k (i + 1) (by omega) (by omega)
        exact ⟨r, er, by rw [hr]; simp [h]⟩
  obtain ⟨r, er, hr⟩ := key l.length k 0 (by omega) hk
  have er' : slices_Index_string_string.l0 k l v l.length 0 = some r := er
  rw [er']
  simp only [Option.bind_some, hr]
  rfl
/-- Place i's name is a name, and none before it is the same. -/
def okN (l : List ByteArray) (i : Nat) : Bool := nmB (l.getD i ByteArray.empty) && !(l.take i).any (fun x => decide ((l.getD i ByteArray.empty).toList = x.toList))
def namesB (l : List ByteArray) : Bool := (List.range l.length).all (okN l) && decide (1 ≤ (l.length : Int) ∧ (l.length : Int) ≤ 12)
theorem names_impl (l : List ByteArray) (hl : l.length ≤ 1000000000) (B : Nat) (hB : ∀ x ∈ l, x.size ≤ B) (hB2 : B ≤ 1000000000) (k : Nat) (hk : l.length + (l.length + B) + 1 < k) : impl_namesOk.f k l = some (namesB l) := by
  unfold impl_namesOk.f namesB
  have := loop_all (fun k i => impl_namesOk.l0 k l l l.length i) l.length (l.length + B) (by omega) (okN l) false (some (decide (1 ≤ (l.length : Int) ∧ (l.length : Int) ≤ 12)))
    (fun k i hB1 hi => by
      have er : rdOf ByteArray.empty l (i : Int) = l.getD i ByteArray.empty := by simp [rdOf]
      have eg : l.getD i ByteArray.empty = l[i] := by simp [List.getD_eq_getElem?_getD, hi]
      have hb : (l.getD i ByteArray.empty).size ≤ B := by rw [eg]; exact hB _ (List.getElem_mem hi)
      simp only [impl_namesOk.l0]
      rw [if_pos (by omega), if_pos (by omega), if_pos (by omega), er, nm_impl _ (by omega) k (by omega)]
      simp only [Option.bind_some]
      by_cases h : nmB (l.getD i ByteArray.empty) = true
      · rw [if_pos h, if_pos (by omega), Int.toNat_natCast, contains_ok _ _ (by simp; omega) k (by simp; omega)]
        simp only [Option.bind_some]
        have eo : okN l i = !(l.take i).any (fun x => decide ((l.getD i ByteArray.empty).toList = x.toList)) := by
          unfold okN
          rw [h, Bool.true_and]
        rw [eo]
        cases hc : (l.take i).any (fun x => decide ((l.getD i ByteArray.empty).toList = x.toList)) <;> simp
      · rw [if_neg h, if_neg (fun hh => h (by unfold okN at hh; rw [Bool.and_eq_true] at hh; exact hh.1))])
    (fun k hB1 => by
      simp only [impl_namesOk.l0]
      rw [if_neg (by omega), in_impl]
      rfl) k hk
  exact this.trans (by cases (List.range l.length).all _ <;> simp)
theorem namesOf_ok (l : List S26) (hl : l.length ≤ 1000000000) (k : Nat) (hk : l.length < k) : impl_namesOf.f k l = some (l.map S26.f0) := by
  unfold impl_namesOf.f
  have key : ∀ (d k i : Nat), i + d = l.length → d < k → impl_namesOf.l0 k ((l.take i).map S26.f0) l l.length i = some (l.map S26.f0) := by
    intro d
    induction d with
    | zero =>
      intro k i hi hk
      obtain ⟨k, rfl⟩ : ∃ m, k = m + 1 := ⟨k - 1, by omega⟩
      simp only [impl_namesOf.l0]
      rw [if_neg (by omega), List.take_of_length_le (by omega)]
    | succ d ih =>
      intro k i hi hk
      obtain ⟨k, rfl⟩ : ∃ m, k = m + 1 := ⟨k - 1, by omega⟩
      have hi2 : i < l.length := by omega
      have er : rd_T26 l (i : Int) = l[i] := by simp [rd_T26, List.getD_eq_getElem?_getD, hi2]
      simp only [impl_namesOf.l0]
      rw [if_pos (by omega), if_pos (by omega), if_pos (by omega), if_pos (by simp; omega), er, w64s (n := l.length) (by omega) (by omega) (by omega)]
      have := ih k (i + 1) (by omega) (by omega)
      rw [List.take_succ_eq_append_getElem hi2, List.map_append, Int.natCast_add] at this
      exact this
  exact key l.length k 0 (by omega) hk
def amB (p : S26) : Bool := decide (1 ≤ p.f1 ∧ p.f1 ≤ 100000)
def partsOk (l : List S26) : Bool := namesB (l.map S26.f0) && l.all amB
theorem parts_impl (l : List S26) (hl : l.length ≤ 1000000000) (B : Nat) (hB : ∀ x ∈ l, x.f0.size ≤ B) (hB2 : B ≤ 1000000000) (k : Nat) (hk : l.length + (l.length + B) + 1 < k) : impl_PartsOk.f k l = some (partsOk l) := by
  unfold impl_PartsOk.f partsOk
  rw [namesOf_ok l hl k (by omega)]
  simp only [Option.bind_some]
  rw [names_impl (l.map S26.f0) (by simpa using hl) B (fun x hx => by
    obtain ⟨y, hy, rfl⟩ := List.mem_map.1 hx
    exact hB y hy) hB2 k (by simpa using hk)]
  simp only [Option.bind_some]
  have hp : ∀ p : S26, impl_Part_42.pred p = !amB p := by
    intro p
    unfold impl_Part_42.pred impl_PartsOk_1.f amB
    rw [in_impl]
    cases decide (1 ≤ p.f1 ∧ p.f1 ≤ 100000) <;> simp
  have ha : l.any impl_Part_42.pred = !l.all amB := by
    rw [List.not_all_eq_any_not]
    congr 1
    exact funext hp
  unfold impl_Part_42.f
  rw [ha]
  cases namesB (l.map S26.f0) <;> simp
theorem parts_spec (l : List S26) (hl : l.length ≤ 1000000000) (B : Nat) (hB : ∀ x ∈ l, x.f0.size ≤ B) (hB2 : B ≤ 1000000000) (k : Nat) (hk : (l.length + 1) * (l.length + 4) + B < k) : spec_PartsOk.f k l = some (partsOk l) := by
  unfold spec_PartsOk.f
  have inner : ∀ (i : Nat) (hi : i < l.length) (d k j : Nat), j + d = i → d < k → spec_PartsOk.l1 k l i j = if ((l.take i).drop j).any (fun x => decide (l[i].f0.toList = x.f0.toList)) = true then some false else spec_PartsOk.l0 (k - d - 1) l ((i + 1 : Nat) : Int) := by
    intro i hi d
    induction d with
    | zero =>
      intro k j hj hk
      obtain ⟨k, rfl⟩ : ∃ m, k = m + 1 := ⟨k - 1, by omega⟩
      rw [List.drop_eq_nil_of_le (by simp; omega)]
      rw [spec_PartsOk.l1, if_neg (by omega), w64s (n := l.length) (by omega) (by omega) (by omega), if_neg (by simp)]
      rfl
    | succ d ih =>
      intro k j hj hk
      obtain ⟨k, rfl⟩ : ∃ m, k = m + 1 := ⟨k - 1, by omega⟩
      have hj2 : j < (l.take i).length := by simp; omega
      have er : rd_T26 l (i : Int) = l[i] := by simp [rd_T26, List.getD_eq_getElem?_getD, hi]
      have er2 : rd_T26 l (j : Int) = l[j]'(by omega) := by simp [rd_T26, List.getD_eq_getElem?_getD, show j < l.length by omega]
      rw [spec_PartsOk.l1, if_pos (by omega), if_pos (by omega), if_pos (by omega), if_pos (by omega), if_pos (by omega), er, er2, List.drop_eq_getElem_cons hj2, List.any_cons, List.getElem_take]
      by_cases h : (l[j]'(by omega)).f0.toList = l[i].f0.toList
      · rw [if_pos h, if_pos (by simp [h])]
      · rw [if_neg h, w64s (n := l.length) (by omega) (by omega) (by omega)]
        have := ih k (j + 1) (by omega) (by omega)
        rw [Int.natCast_add] at this
        have e : k + 1 - (d + 1) - 1 = k - d - 1 := by omega
        have h' : ¬ l[i].f0.toList = (l[j]'(by omega)).f0.toList := fun hh => h hh.symm
        rw [e, decide_eq_false h', Bool.false_or]
        exact this
  have key : ∀ (d k i : Nat), i + d = l.length → (d + 1) * (l.length + 4) + B < k → spec_PartsOk.l0 k l i = some ((List.range' i d).all (fun i => okN (l.map S26.f0) i && amB (l.getD i z26)) && decide (1 ≤ (l.length : Int) ∧ (l.length : Int) ≤ 12)) := by
    intro d
    induction d with
    | zero =>
      intro k i hi hk
      obtain ⟨k, rfl⟩ : ∃ m, k = m + 1 := ⟨k - 1, by omega⟩
      rw [spec_PartsOk.l0, if_neg (by omega), in_spec]
      simp
    | succ d ih =>
      intro k i hi hk
      have hmul : (d + 1 + 1) * (l.length + 4) = (d + 1) * (l.length + 4) + (l.length + 4) := Nat.succ_mul _ _
      obtain ⟨k, rfl⟩ : ∃ m, k = m + 1 + 1 := ⟨k - 2, by omega⟩
      have hi2 : i < l.length := by omega
      have er : rd_T26 l (i : Int) = l[i] := by simp [rd_T26, List.getD_eq_getElem?_getD, hi2]
      have eg : l.getD i z26 = l[i] := by simp [List.getD_eq_getElem?_getD, hi2]
      have en : (l.map S26.f0).getD i ByteArray.empty = l[i].f0 := by simp [List.getD_eq_getElem?_getD, hi2]
      have hb := hB _ (List.getElem_mem hi2)
      rw [spec_PartsOk.l0, if_pos (by omega), if_pos (by omega), er, nm_spec _ (by omega) (k + 1) (by omega), List.range'_succ, List.all_cons, eg]
      simp only [Option.bind_some, okN, en]
      have ht : ((l.map S26.f0).take i).any (fun x => decide (l[i].f0.toList = x.toList)) = (l.take i).any (fun x => decide (l[i].f0.toList = x.f0.toList)) := by
        rw [← List.map_take, List.any_map]
        rfl
      rw [ht]
      by_cases h : nmB l[i].f0 = true
      · rw [if_pos h, in_spec]
        simp only [Option.bind_some]
        by_cases h2 : 1 ≤ l[i].f1 ∧ l[i].f1 ≤ 100000
        · have ha : amB l[i] = true := decide_eq_true h2
          rw [decide_eq_true h2, spec_PartsOk.j1, if_neg (by simp)]
          have := inner i hi2 i k 0 (by omega) (by omega)
          rw [List.drop_zero] at this
          have t2 : spec_PartsOk.l1 k l (i : Int) 0 = _ := this
          rw [t2]
          rw [ha, h]
          by_cases h3 : (l.take i).any (fun x => decide (l[i].f0.toList = x.f0.toList)) = true
          · rw [if_pos h3, h3]
            simp
          · rw [if_neg h3, ih (k - i - 1) (i + 1) (by omega) (by omega)]
            rw [Bool.not_eq_true] at h3
            rw [h3]
            simp [okN]
        · have ha : amB l[i] = false := decide_eq_false h2
          rw [decide_eq_false h2, spec_PartsOk.j1, if_pos (by simp), ha]
          simp
      · rw [if_neg h, spec_PartsOk.j1, if_pos rfl]
        rw [Bool.not_eq_true] at h
        rw [h]
        simp
  have := key l.length k 0 (by omega) hk
  have e0 : spec_PartsOk.l0 k l 0 = _ := this
  rw [e0, ← List.range_eq_range']
  unfold partsOk namesB
  rw [List.length_map, ← all_range_getD l z26 amB]
  congr 1
  rw [Bool.eq_iff_iff]
  simp only [Bool.and_eq_true, List.all_eq_true]
  constructor
  · rintro ⟨a, b⟩
    exact ⟨⟨fun x hx => (a x hx).1, b⟩, fun x hx => (a x hx).2⟩
  · rintro ⟨⟨a, b⟩, c⟩
    exact ⟨fun x hx => ⟨a x hx, c x hx⟩, b⟩

end Go.Proofs.YtjabgjlkemfofaaDoor.Lem
