/- Plain lemmas on the printed functions: what they compute; conditions stand in each lemma. -/
import Derived.Test.YthnflldlljpmpaaQx0
import Derived.Test.YthnflldlljpmpaaQx23
import Derived.Test.YthnflldlljpmpaaQx25
import Derived.Test.YthnflldlljpmpaaLembase
import Derived.Test.YthnflldlljpmpaaLemin
import Derived.Test.YthnflldlljpmpaaLemstMachine
import Derived.Test.YthnflldlljpmpaaLempowA
import Derived.Test.YthnflldlljpmpaaLempowB
import Derived.Test.YthnflldlljpmpaaLemmaxI
import Derived.Test.YthnflldlljpmpaaLempowE
namespace Go.Proofs.Ythnflldlljpmpaa.Lem
open Go.RowKit Go.Proofs.Ythnflldlljpmpaa.Q Go.Proofs.YthnflldlljpmpaaW.PrintWords Go.Proofs.YthnflldlljpmpaaW.PrintLast Go.Proofs.YthnflldlljpmpaaW.PrintMore Go.Proofs.Ythnflldlljpmpaa.Lem
set_option linter.unusedVariables false
set_option linter.unusedSimpArgs false
/-- The greatest number of the window of M numbers from place i on. -/
def win (p : List Int) (M i : Nat) : Int := maxR ((p.take (i + M)).drop i)
def bsV (p : List Int) (pk w : Int) (M i : Nat) : Int := max pk (win p M i + w)
def bsStep (p : List Int) (pk w : Int) (M : Nat) (s : Int × Int) (i : Nat) : Int × Int := if s.1 < 0 ∨ bsV p pk w M i < s.2 then ((i : Int), bsV p pk w M i) else s
def bsRun (p : List Int) (w : Int) (M : Nat) : Int := ((List.range (1441 - M)).foldl (bsStep p (maxR p) w M) (-1, 0)).1
def bestStart (l : List S40) (m w : Int) : Int := if machOk l = true ∧ l.length ≠ 12 ∧ (1 ≤ m ∧ m ≤ 1440) ∧ 1 ≤ w ∧ w ≤ 10000 then bsRun (pws l) w m.toNat else -1
theorem win_mem (p : List Int) (M i : Nat) : ∀ x ∈ (p.take (i + M)).drop i, x ∈ p := fun x hx => List.mem_of_mem_take (List.mem_of_mem_drop hx)
theorem win_ok {p : List Int} (h : ∀ x ∈ p, 0 ≤ x ∧ x ≤ 120000) (M i : Nat) : 0 ≤ win p M i ∧ win p M i ≤ 120000 :=
  ⟨maxR_nonneg _, maxR_le (by omega) (fun x hx => (h x (win_mem p M i x hx)).2)⟩
theorem bs_impl (p : List Int) (hp : p.length = 1440) (h : ∀ x ∈ p, 0 ≤ x ∧ x ≤ 120000) (M : Nat) (h1 : 1 ≤ M) (h2 : M ≤ 1440) (w : Int) (w1 : 1 ≤ w) (w2 : w ≤ 10000) (k : Nat) (hk : 5000 < k) :
    impl_BestStart.l0 k (M : Int) w p (maxR p) (-1) 0 0 = some (bsRun p w M) := by
  have L := loop_fold (fun k i (s : Int × Int) => impl_BestStart.l0 k (M : Int) w p (maxR p) s.1 s.2 i) (1441 - M) 2000 (by omega) (fun _ _ => True) (bsStep p (maxR p) w M) (fun s => some s.1)
    (fun k i s hB hi _ => by
      have hw := win_ok h M i
      have e : wrap64 ((i : Int) + (M : Int)) = ((i + M : Nat) : Int) := by
        rw [w64 (by omega) (by omega)]
        omega
      have hl : ((p.take (i + M)).drop i).length = M := by simp [hp]; omega
      have hmx := max_ok ((p.take (i + M)).drop i) (fun e0 => by rw [e0] at hl; simp at hl; omega) (fun x hx => (h x (win_mem p M i x hx)).1) k (by omega) (by omega)
      simp only [impl_BestStart.l0, e]
      rw [if_pos (by omega), if_pos (by omega), if_pos (by omega), if_pos (by omega), Int.toNat_natCast, Int.toNat_natCast, hmx]
      simp only [Option.bind_some, mx_eq]
      have ew : wrap64 (maxR ((p.take (i + M)).drop i) + w) = win p M i + w := by
        unfold win at hw
        rw [w64 (by omega) (by omega)]
        rfl
      rw [ew]
      simp only [bsStep]
      by_cases c1 : s.1 < 0
      · rw [if_pos c1, if_pos (.inl c1)]
        rfl
      · rw [if_neg c1]
        by_cases c2 : bsV p (maxR p) w M i < s.2
        · rw [if_pos (by exact c2), if_pos (.inr c2)]
          rfl
        · rw [if_neg (by exact c2), if_neg (by rintro (c | c); exact c1 c; exact c2 c)])
    (fun i s hi _ => trivial)
    (fun k s hB _ => by
      simp only [impl_BestStart.l0]
      rw [w64 (n := ((1441 - M : Nat) : Int) + (M : Int)) (by omega) (by omega), if_neg (by omega)]) k (-1, 0) trivial (by omega)
  exact L.1
theorem bs_inner (p : List Int) (hp : p.length = 1440) (M i : Nat) (hi : i + M ≤ 1440) (w pk : Int) (b lo : Int) (k : Nat) : ∀ (d j : Nat) (acc : Int), j + d = i + M →
    spec_BestStart.l1 (k + d + 1) (M : Int) w p pk b lo (i : Int) acc (j : Int) = spec_BestStart.l1 (k + 1) (M : Int) w p pk b lo (i : Int) (((p.take (i + M)).drop j).foldl max acc) ((i + M : Nat) : Int) := by
  intro d
  induction d with
  | zero =>
    intro j acc hj
    have : j = i + M := by omega
    subst this
    rw [List.drop_eq_nil_of_le (by simp; omega)]
    rfl
  | succ d ih =>
    intro j acc hj
    have hjl : j < (p.take (i + M)).length := by simp [hp]; omega
    have ej : (p.take (i + M))[j] = rd p (j : Int) := by
      rw [rd_nat]
      simp [List.getD_eq_getElem?_getD, List.getElem?_eq_getElem (show j < p.length by omega)]
    have e : k + (d + 1) + 1 = (k + d + 1) + 1 := by omega
    rw [e]
    conv => lhs; unfold spec_BestStart.l1
    rw [w64 (n := (i : Int) + (M : Int)) (by omega) (by omega), if_pos (by omega), if_pos (by omega), if_pos (by omega), mx_eq, w64 (n := (j : Int) + 1) (by omega) (by omega)]
    have := ih (j + 1) (max acc (rd p (j : Int))) (by omega)
    rw [Int.natCast_add] at this
    rw [List.drop_eq_getElem_cons hjl, List.foldl_cons, ej]
    exact this
theorem bs_spec (p : List Int) (hp : p.length = 1440) (h : ∀ x ∈ p, 0 ≤ x ∧ x ≤ 120000) (M : Nat) (h1 : 1 ≤ M) (h2 : M ≤ 1440) (w : Int) (w1 : 1 ≤ w) (w2 : w ≤ 10000) (k : Nat) (hk : 3000000 < k) :
    spec_BestStart.l0 k (M : Int) w p (maxR p) (-1) 0 0 = some (bsRun p w M) := by
  have L := seg (fun k i (s : Int × Int) => spec_BestStart.l0 k (M : Int) w p (maxR p) s.1 s.2 i) (fun _ s => some s.1) (1441 - M) 0 (fun _ => M + 2) (fun _ _ => True) (bsStep p (maxR p) w M)
    (fun k i s hB hi _ => by
      have hw := win_ok h M i
      show spec_BestStart.l0 ((k + M + 1) + 1) _ _ _ _ _ _ _ = _
      conv => lhs; unfold spec_BestStart.l0
      rw [w64 (n := (i : Int) + (M : Int)) (by omega) (by omega), if_pos (by omega), bs_inner p hp M i (by omega) w (maxR p) s.1 s.2 k M i 0 (by omega)]
      conv => lhs; unfold spec_BestStart.l1
      rw [w64 (n := (i : Int) + (M : Int)) (by omega) (by omega), if_neg (by omega)]
      have ew : wrap64 (((p.take (i + M)).drop i).foldl max 0 + w) = win p M i + w := by
        unfold win maxR at hw
        rw [w64 (by omega) (by omega)]
        rfl
      rw [mx_eq, ew, w64 (n := (i : Int) + 1) (by omega) (by omega)]
      simp only [bsStep]
      by_cases c1 : s.1 < 0
      · rw [if_pos c1, if_pos (.inl c1)]
        rfl
      · rw [if_neg c1]
        by_cases c2 : bsV p (maxR p) w M i < s.2
        · rw [if_pos (by exact c2), if_pos (.inr c2)]
          rfl
        · rw [if_neg (by exact c2), if_neg (by rintro (c | c); exact c1 c; exact c2 c)])
    (fun i s hi _ => trivial)
    (fun k s hB _ => by
      simp only [spec_BestStart.l0]
      rw [w64 (n := ((1441 - M : Nat) : Int) + (M : Int)) (by omega) (by omega), if_neg (by omega)])
  have hs : ((List.range' 0 (1441 - M)).map (fun _ => M + 2)).sum ≤ 1441 * 1442 := by
    rw [List.map_const', List.sum_replicate_nat, List.length_range']
    exact Nat.mul_le_mul (by omega) (by omega)
  have := (L (1441 - M) 0 (k - 1 - ((List.range' 0 (1441 - M)).map (fun _ => M + 2)).sum) (-1, 0) (by omega) (by omega) trivial).1
  have e : k - 1 - ((List.range' 0 (1441 - M)).map (fun _ => M + 2)).sum + 1 + ((List.range' 0 (1441 - M)).map (fun _ => M + 2)).sum = k := by omega
  rw [e] at this
  simp only [bsRun, List.range_eq_range']
  exact this
theorem best_impl (l : List S40) (m w : Int) (k : Nat) (hk : 30000 < k) : impl_BestStart.f k l m w = some (bestStart l m w) := by
  obtain ⟨k, rfl⟩ : ∃ n, k = n + 1 := ⟨k - 1, by omega⟩
  simp only [impl_BestStart.f, mach_impl, in_impl, Option.bind_some, bestStart, impl_BestStart.j0]
  by_cases h : machOk l = true
  · rw [if_pos h]
    by_cases h3 : l.length = 12
    · rw [if_pos (by omega), if_pos trivial, if_neg (fun hh => hh.2.1 h3)]
    rw [if_neg (by omega)]
    by_cases h1 : 1 ≤ m ∧ m ≤ 1440
    · by_cases h2 : 1 ≤ w ∧ w ≤ 10000
      · rw [decide_eq_true h1, decide_eq_true h2, if_pos (c := true = true) rfl, if_neg (c := (!true) = true) (by simp), powers_impl l h k (by omega), if_pos (c := machOk l = true ∧ _) ⟨h, h3, h1, h2⟩]
        simp only [Option.bind_some]
        rw [max_ok (pws l) (pws_ne l) (pws_nonneg h) k (by rw [pws_len]; omega) (by rw [pws_len]; omega)]
        have := bs_impl (pws l) (pws_len l) (pws_ok h) m.toNat (by omega) (by omega) w h2.1 h2.2 k (by omega)
        rw [Int.toNat_of_nonneg (by omega)] at this
        simp only [Option.bind_some]
        exact this
      · rw [decide_eq_true h1, decide_eq_false h2, if_pos (c := true = true) rfl, if_pos (c := (!false) = true) (by simp), if_neg (c := machOk l = true ∧ _) (fun hh => h2 hh.2.2.2)]
    · rw [decide_eq_false h1, if_neg (c := false = true) (by simp), if_pos trivial, if_neg (c := machOk l = true ∧ _) (fun hh => h1 hh.2.2.1)]
  · rw [if_neg h, if_pos trivial, if_neg (c := machOk l = true ∧ _) (fun hh => h hh.1)]
theorem best_spec (l : List S40) (m w : Int) (k : Nat) (hl : l.length ≤ 1000000000) (hk : l.length + 3030000 < k) : spec_BestStart.f k l m w = some (bestStart l m w) := by
  obtain ⟨k, rfl⟩ : ∃ n, k = n + 1 := ⟨k - 1, by omega⟩
  simp only [spec_BestStart.f, mach_spec l (k + 1) hl (by omega), in_spec, Option.bind_some, bestStart, spec_BestStart.j0]
  by_cases h : machOk l = true
  · rw [if_pos h]
    by_cases h3 : l.length = 12
    · rw [if_pos (by omega), if_pos trivial, if_neg (fun hh => hh.2.1 h3)]
    rw [if_neg (by omega)]
    by_cases h1 : 1 ≤ m ∧ m ≤ 1440
    · by_cases h2 : 1 ≤ w ∧ w ≤ 10000
      · rw [decide_eq_true h1, decide_eq_true h2, if_pos (c := true = true) rfl, if_neg (c := (!true) = true) (by simp), powers_spec l h k (by omega), peak_spec l k hl (by omega), if_pos (c := machOk l = true ∧ _) ⟨h, h3, h1, h2⟩]
        simp only [Option.bind_some, peak]
        simp only [if_pos h]
        have := bs_spec (pws l) (pws_len l) (pws_ok h) m.toNat (by omega) (by omega) w h2.1 h2.2 k (by omega)
        rw [Int.toNat_of_nonneg (by omega)] at this
        exact this
      · rw [decide_eq_true h1, decide_eq_false h2, if_pos (c := true = true) rfl, if_pos (c := (!false) = true) (by simp), if_neg (c := machOk l = true ∧ _) (fun hh => h2 hh.2.2.2)]
    · rw [decide_eq_false h1, if_neg (c := false = true) (by simp), if_pos trivial, if_neg (c := machOk l = true ∧ _) (fun hh => h1 hh.2.2.1)]
  · rw [if_neg h, if_pos trivial, if_neg (c := machOk l = true ∧ _) (fun hh => h hh.1)]

end Go.Proofs.Ythnflldlljpmpaa.Lem
