/- Plain lemmas on the printed functions: what they compute; conditions stand in each lemma. -/
import Derived.Test.YthnflldlljpmpaaQx0
import Derived.Test.YthnflldlljpmpaaQx7
import Derived.Test.YthnflldlljpmpaaQx9
import Derived.Test.YthnflldlljpmpaaLembase
import Derived.Test.YthnflldlljpmpaaLemin
import Derived.Test.YthnflldlljpmpaaLemstMachine
import Derived.Test.YthnflldlljpmpaaLempowA
namespace Go.Proofs.Ythnflldlljpmpaa.Lem
open Go.RowKit Go.Proofs.Ythnflldlljpmpaa.Q Go.Proofs.YthnflldlljpmpaaW.PrintWords Go.Proofs.YthnflldlljpmpaaW.PrintLast Go.Proofs.YthnflldlljpmpaaW.PrintMore Go.Proofs.Ythnflldlljpmpaa.Lem
set_option linter.unusedVariables false
set_option linter.unusedSimpArgs false
/-- The power at minute t. -/
def pwS (acc : Int) (t : Nat) (m : S40) : Int := if m.f0 ≤ (t : Int) ∧ (t : Int) < m.f1 then acc + m.f2 else acc
def pw (l : List S40) (t : Nat) : Int := l.foldl (fun acc m => pwS acc t m) 0
def pws (l : List S40) : List Int := (List.range 1440).map (pw l)
theorem pw_bounds {l : List S40} (h : ∀ m ∈ l, mOk m = true) (t : Nat) : 0 ≤ pw l t ∧ pw l t ≤ 10000 * l.length := by
  have key : ∀ (l : List S40) (a : Int), (∀ m ∈ l, mOk m = true) → a ≤ l.foldl (fun acc m => pwS acc t m) a ∧ l.foldl (fun acc m => pwS acc t m) a ≤ a + 10000 * l.length := by
    intro l
    induction l with
    | nil => intro a _; simp
    | cons m l ih =>
      intro a h
      rw [List.foldl_cons, List.length_cons]
      have hm := mOk_iff.1 (h m List.mem_cons_self)
      have := ih (pwS a t m) (fun x hx => h x (List.mem_cons_of_mem _ hx))
      have e : a ≤ pwS a t m ∧ pwS a t m ≤ a + 10000 := by
        unfold pwS
        split <;> omega
      omega
  have := key l 0 h
  unfold pw
  omega
theorem pw_snoc (l : List S40) (m : S40) (t : Nat) : pw (l ++ [m]) t = pwS (pw l t) t m := by
  unfold pw
  rw [List.foldl_append]
  rfl
theorem rd_map (g : Nat → Int) (n : Nat) (x : Int) (h0 : 0 ≤ x) (h1 : x < n) : rd ((List.range n).map g) x = g x.toNat := by
  have : x.toNat < n := by omega
  simp [rd, List.getD_eq_getElem?_getD, this]
theorem set_map (g : Nat → Int) (n : Nat) (j : Nat) (v : Int) : ((List.range n).map g).set j v = (List.range n).map (fun t => if t = j then v else g t) := by
  apply List.ext_getElem?
  intro i
  rw [List.getElem?_set]
  by_cases hi : i < n
  · by_cases e : j = i
    · subst e
      simp [hi]
    · have e2 : ¬ i = j := fun h => e h.symm
      simp [hi, e, e2]
  · by_cases e : j = i
    · subst e
      simp [hi]
    · simp [hi, e]
/-- What one machine adds from minute x on. -/
def addFrom (g : Nat → Int) (x b w : Int) (t : Nat) : Int := if x ≤ (t : Int) ∧ (t : Int) < b then g t + w else g t
theorem addFrom_step (g : Nat → Int) (x b w : Int) (hx : 0 ≤ x) (hb : x < b) : addFrom (fun t => if t = x.toNat then g x.toNat + w else g t) (x + 1) b w = addFrom g x b w := by
  funext t
  unfold addFrom
  dsimp only
  by_cases h : (t : Int) = x
  · have e : t = x.toNat := by omega
    rw [if_neg (by omega), if_pos e, if_pos (by omega), e]
  · have e : ¬ t = x.toNat := by omega
    by_cases h2 : x ≤ (t : Int) ∧ (t : Int) < b
    · rw [if_pos (by omega), if_neg e, if_pos h2]
    · rw [if_neg (by omega), if_neg e, if_neg h2]
theorem zeros_map (n : Nat) : (List.range n).map (pw []) = List.replicate n 0 := by
  apply List.ext_getElem
  · simp
  · intro i h1 h2
    simp [pw]
theorem inner_spec (l : List S40) (i : Nat) (hi : i < l.length) (M : S40) (hM : l.getD i z40 = M) (hm : mOk M = true) :
    ∀ (d k : Nat) (x : Int) (g : Nat → Int), 0 ≤ x → x + d = M.f1 → (∀ t : Nat, x ≤ (t : Int) → 0 ≤ g t ∧ g t ≤ 1000000) →
      spec_l26Powers.l1 (k + d + 1) l ((List.range 1440).map g) i x = spec_l26Powers.l0 k l ((List.range 1440).map (addFrom g x M.f1 M.f2)) (wrap64 ((i : Int) + 1)) := by
  have hm2 := mOk_iff.1 hm
  intro d
  induction d with
  | zero =>
    intro k x g h0 hd hg
    simp only [spec_l26Powers.l1, rdIMachine, hM]
    rw [if_pos (by omega), if_pos (by omega), if_neg (by omega)]
    have : addFrom g x M.f1 M.f2 = g := by
      funext t
      unfold addFrom
      rw [if_neg (by omega)]
    rw [this]
  | succ d ih =>
    intro k x g h0 hd hg
    have e : k + (d + 1) + 1 = (k + d + 1) + 1 := by omega
    rw [e]
    generalize hK : k + d + 1 = K
    simp only [spec_l26Powers.l1, rdIMachine, hM]
    rw [if_pos (by omega), if_pos (by omega), if_pos (by omega), if_pos h0, if_pos (by simp; omega), rd_map g 1440 x h0 (by omega), set_map]
    have hb := hg x.toNat (by omega)
    rw [w64 (n := g x.toNat + M.f2) (by omega) (by omega), w64 (n := x + 1) (by omega) (by omega)]
    rw [← hK, ih k (x + 1) _ (by omega) (by omega) (fun t ht => by rw [if_neg (by omega)]; exact hg t (by omega))]
    rw [addFrom_step g x _ _ h0 (by omega)]
theorem inner_impl (l : List S40) (i : Nat) (hi : i < l.length) (M : S40) (hM : l.getD i z40 = M) (hm : mOk M = true) :
    ∀ (d k : Nat) (x : Int) (g : Nat → Int), 0 ≤ x → x + d = M.f1 → (∀ t : Nat, x ≤ (t : Int) → 0 ≤ g t ∧ g t ≤ 1000000) →
      impl_powers.l1 (k + d + 1) ((List.range 1440).map g) x l l.length i M.f0 M.f1 M.f2 = impl_powers.l0 k ((List.range 1440).map (addFrom g x M.f1 M.f2)) l l.length (wrap64 ((i : Int) + 1)) := by
  have hm2 := mOk_iff.1 hm
  intro d
  induction d with
  | zero =>
    intro k x g h0 hd hg
    simp only [impl_powers.l1]
    rw [if_neg (by omega)]
    have : addFrom g x M.f1 M.f2 = g := by
      funext t
      unfold addFrom
      rw [if_neg (by omega)]
    rw [this]
  | succ d ih =>
    intro k x g h0 hd hg
    have e : k + (d + 1) + 1 = (k + d + 1) + 1 := by omega
    rw [e]
    generalize hK : k + d + 1 = K
    simp only [impl_powers.l1]
    rw [if_pos (by omega), if_pos h0, if_pos (by simp; omega), rd_map g 1440 x h0 (by omega), set_map]
    have hb := hg x.toNat (by omega)
    rw [w64 (n := g x.toNat + M.f2) (by omega) (by omega), w64 (n := x + 1) (by omega) (by omega)]
    rw [← hK, ih k (x + 1) _ (by omega) (by omega) (fun t ht => by rw [if_neg (by omega)]; exact hg t (by omega))]
    rw [addFrom_step g x _ _ h0 (by omega)]
set_option maxRecDepth 100000 in
theorem powers_spec (l : List S40) (h : machOk l = true) (k : Nat) (hk : 20000 < k) : spec_l26Powers.f k l = some (pws l) := by
  obtain ⟨hl, hm⟩ := machOk_iff.1 h
  unfold spec_l26Powers.f
  rw [if_pos (by omega)]
  have key : ∀ (d k i : Nat), i + d = l.length → d * 1443 + 1 < k → spec_l26Powers.l0 k l ((List.range 1440).map (pw (l.take i))) i = some (pws l) := by
    intro d
    induction d with
    | zero =>
      intro k i hd hk
      obtain ⟨k, rfl⟩ : ∃ m, k = m + 1 := ⟨k - 1, by omega⟩
      simp only [spec_l26Powers.l0]
      rw [if_neg (by omega)]
      have : l.take i = l := List.take_of_length_le (by omega)
      rw [this]
      rfl
    | succ d ih =>
      intro k i hd hk
      have hi : i < l.length := by omega
      have hM : l.getD i z40 = l[i] := by simp [List.getD_eq_getElem?_getD, hi]
      have hmi := hm _ (List.getElem_mem hi)
      have hm2 := mOk_iff.1 hmi
      have hlt : ∀ m ∈ l.take i, mOk m = true := fun m hm' => hm m (List.mem_of_mem_take hm')
      have hb : ∀ t : Nat, 0 ≤ pw (l.take i) t ∧ pw (l.take i) t ≤ 1000000 := fun t => by
        have := pw_bounds hlt t
        have e : (l.take i).length ≤ 12 := by rw [List.length_take]; omega
        omega
      generalize hd2 : ((l[i]).f1 - (l[i]).f0).toNat = dur
      have hdur : dur ≤ 1440 := by omega
      have hk1 : (d + 1) * 1443 + 1 < k := hk
      obtain ⟨k, rfl⟩ : ∃ m, k = m + dur + 1 + 1 := ⟨k - dur - 2, by omega⟩
      have hk3 : d * 1443 + 1 < k := by omega
      simp only [spec_l26Powers.l0, rdIMachine, hM]
      rw [if_pos (by omega), if_pos (by omega)]
      rw [inner_spec l i hi l[i] hM hmi dur k _ _ (by omega) (by omega) (fun t _ => hb t)]
      rw [w64s (n := l.length) (by omega) (by omega) (by omega)]
      have e : addFrom (pw (l.take i)) (l[i]).f0 (l[i]).f1 (l[i]).f2 = pw (l.take (i + 1)) := by
        funext t
        rw [List.take_succ_eq_append_getElem hi, pw_snoc]
        rfl
      rw [e]
      have hd3 : i + 1 + d = l.length := by omega
      have := ih k (i + 1) hd3 hk3
      rw [Int.natCast_add] at this
      exact this
  have hk2 : l.length * 1443 + 1 < k := by clear key; omega
  have := key l.length k 0 (Nat.zero_add _) hk2
  rw [List.take_zero, zeros_map] at this
  exact this
set_option maxRecDepth 100000 in
theorem powers_impl (l : List S40) (h : machOk l = true) (k : Nat) (hk : 20000 < k) : impl_powers.f k l = some (pws l) := by
  obtain ⟨hl, hm⟩ := machOk_iff.1 h
  unfold impl_powers.f
  rw [if_pos (by omega)]
  have key : ∀ (d k i : Nat), i + d = l.length → d * 1443 + 1 < k → impl_powers.l0 k ((List.range 1440).map (pw (l.take i))) l l.length i = some (pws l) := by
    intro d
    induction d with
    | zero =>
      intro k i hd hk
      obtain ⟨k, rfl⟩ : ∃ m, k = m + 1 := ⟨k - 1, by omega⟩
      simp only [impl_powers.l0]
      rw [if_neg (by omega)]
      have : l.take i = l := List.take_of_length_le (by omega)
      rw [this]
      rfl
    | succ d ih =>
      intro k i hd hk
      have hi : i < l.length := by omega
      have hM : l.getD i z40 = l[i] := by simp [List.getD_eq_getElem?_getD, hi]
      have hmi := hm _ (List.getElem_mem hi)
      have hm2 := mOk_iff.1 hmi
      have hlt : ∀ m ∈ l.take i, mOk m = true := fun m hm' => hm m (List.mem_of_mem_take hm')
      have hb : ∀ t : Nat, 0 ≤ pw (l.take i) t ∧ pw (l.take i) t ≤ 1000000 := fun t => by
        have := pw_bounds hlt t
        have e : (l.take i).length ≤ 12 := by rw [List.length_take]; omega
        omega
      generalize hd2 : ((l[i]).f1 - (l[i]).f0).toNat = dur
      have hdur : dur ≤ 1440 := by omega
      have hk1 : (d + 1) * 1443 + 1 < k := hk
      obtain ⟨k, rfl⟩ : ∃ m, k = m + dur + 1 + 1 := ⟨k - dur - 2, by omega⟩
      have hk3 : d * 1443 + 1 < k := by omega
      simp only [impl_powers.l0, rdIMachine, hM]
      rw [if_pos (by omega), if_pos (by omega), if_pos (by omega)]
      rw [inner_impl l i hi l[i] hM hmi dur k _ _ (by omega) (by omega) (fun t _ => hb t)]
      rw [w64s (n := l.length) (by omega) (by omega) (by omega)]
      have e : addFrom (pw (l.take i)) (l[i]).f0 (l[i]).f1 (l[i]).f2 = pw (l.take (i + 1)) := by
        funext t
        rw [List.take_succ_eq_append_getElem hi, pw_snoc]
        rfl
      rw [e]
      have hd3 : i + 1 + d = l.length := by omega
      have := ih k (i + 1) hd3 hk3
      rw [Int.natCast_add] at this
      exact this
  have hk2 : l.length * 1443 + 1 < k := by clear key; omega
  have := key l.length k 0 (Nat.zero_add _) hk2
  rw [List.take_zero, zeros_map] at this
  exact this
theorem pws_len (l : List S40) : (pws l).length = 1440 := by simp [pws]
theorem rd_pws (l : List S40) (x : Int) (h0 : 0 ≤ x) (h1 : x < 1440) : rd (pws l) x = pw l x.toNat := rd_map _ 1440 x h0 (by omega)
theorem pw_ok {l : List S40} (h : machOk l = true) (t : Nat) : 0 ≤ pw l t ∧ pw l t ≤ 120000 := by
  obtain ⟨hl, hm⟩ := machOk_iff.1 h
  have := pw_bounds hm t
  omega
theorem pws_ok {l : List S40} (h : machOk l = true) : ∀ x ∈ pws l, 0 ≤ x ∧ x ≤ 120000 := by
  intro x hx
  obtain ⟨t, _, rfl⟩ := List.mem_map.1 hx
  exact pw_ok h t

end Go.Proofs.Ythnflldlljpmpaa.Lem
