/- Plain lemmas on the printed functions: what they compute; conditions stand in each lemma. -/
import Derived.Test.YtjabgjlkemfofaaDoorQx3
import Derived.Test.YtjabgjlkemfofaaDoorQx12
import Derived.Test.YtjabgjlkemfofaaDoorQx13
import Derived.Test.YtjabgjlkemfofaaDoorLembase
import Derived.Test.YtjabgjlkemfofaaDoorLemin
namespace Go.Proofs.YtjabgjlkemfofaaDoor.Lem
open Go.RowKit Go.Proofs.YtjabgjlkemfofaaDoor.Q Go.Proofs.YtjabgjlkemfofaaDoorW.PrintWords Go.Proofs.YtjabgjlkemfofaaDoorW.PrintLast Go.Proofs.YtjabgjlkemfofaaDoorW.PrintMore Go.Proofs.YtjabgjlkemfofaaDoor.Lem
set_option linter.unusedVariables false
set_option linter.unusedSimpArgs false
theorem figure_ok (n : Nat) (h : n < 10) : spec_l01Figure.f (n : Int) = some ((48 + n : Nat) : Int) := by
  unfold spec_l01Figure.f
  rw [if_pos (by omega), w64 (n := 48 + (n : Int)) (by omega) (by omega)]
  congr 1
  omega
theorem str_one (m : Nat) (h : m < 256) : (strOfNums [(m : Int)]).data.toList = [UInt8.ofNat m] := by
  show [UInt8.ofNat (m : Int).toNat] = _
  rw [Int.toNat_natCast]
theorem str_size (m : Nat) (h : m < 256) : (strOfNums [(m : Int)]).size = 1 := rfl
theorem fmt_loop : ∀ (b n : Nat) (k : Nat) (s : ByteArray), n ≤ b → n < k → s.size + n ≤ 100000 → 0 < n → ∃ r, spec_FormatInt.l0 k (n : Int) false s = some r ∧ r.data.toList = Lib.decDigits n ++ s.data.toList := by
  intro b
  induction b with
  | zero => intro n k s h1 h2 h3 h4; omega
  | succ b ih =>
    intro n k s h1 h2 h3 h4
    obtain ⟨k, rfl⟩ : ∃ m, k = m + 1 := ⟨k - 1, by omega⟩
    have et : Int.tmod (n : Int) 10 = ((n % 10 : Nat) : Int) := by rw [Int.ofNat_tmod]; rfl
    have ed : Int.tdiv (n : Int) 10 = ((n / 10 : Nat) : Int) := by rw [Int.ofNat_tdiv]; rfl
    have hm : n % 10 < 10 := Nat.mod_lt _ (by omega)
    rw [spec_FormatInt.l0, if_neg (by omega), if_neg (by rw [et]; omega), et, figure_ok _ hm, ed, w64 (n := ((n / 10 : Nat) : Int)) (by omega) (by omega)]
    simp only [Option.bind_some]
    have hz := str_size (48 + n % 10) (by omega)
    rw [if_pos (by rw [hz]; omega)]
    have hd : (strOfNums [((48 + n % 10 : Nat) : Int)] ++ s).data.toList = UInt8.ofNat (48 + n % 10) :: s.data.toList := by
      rw [ByteArray.data_append, Array.toList_append, str_one _ (by omega)]
      rfl
    by_cases h9 : n < 10
    · obtain ⟨k, rfl⟩ : ∃ m, k = m + 1 := ⟨k - 1, by omega⟩
      have e0 : n / 10 = 0 := by omega
      have e1 : n % 10 = n := by omega
      rw [e0, spec_FormatInt.l0, if_pos (by omega), if_neg (by simp)]
      refine ⟨_, rfl, ?_⟩
      rw [hd, e1, Lib.decDigits, dif_pos h9]
      rfl
    · obtain ⟨r, hr, hl⟩ := ih (n / 10) k (strOfNums [((48 + n % 10 : Nat) : Int)] ++ s) (by omega) (by omega) (by rw [ByteArray.size_append, hz]; omega) (by omega)
      refine ⟨r, hr, ?_⟩
      rw [hl, hd, Lib.decDigits.eq_1 n, dif_neg h9, List.append_assoc]
      rfl
theorem fmt_spec (n k : Nat) (hn : n ≤ 1000) (hk : n + 1 < k) : ∃ r, spec_FormatInt.f k (n : Int) = some r ∧ r.data.toList = Lib.itoa (n : Int) := by
  have ei : Lib.itoa (n : Int) = Lib.decDigits n := by rw [Lib.itoa, if_neg (by omega), Int.toNat_natCast]
  rw [ei]
  unfold spec_FormatInt.f
  by_cases h : n = 0
  · subst h
    refine ⟨(⟨#[48]⟩ : ByteArray), if_pos rfl, ?_⟩
    rw [Lib.decDigits, dif_pos (by decide)]
    rfl
  · rw [if_neg (by omega), decide_eq_false (by omega : ¬ ((n : Int) < 0))]
    obtain ⟨r, h1, h2⟩ := fmt_loop n n k (⟨#[]⟩ : ByteArray) (Nat.le_refl _) (by omega) (by simp [ByteArray.size]; omega) (by omega)
    refine ⟨r, h1, ?_⟩
    rw [h2]
    simp
theorem digits_len : ∀ (b n : Nat), n ≤ b → (Lib.decDigits n).length ≤ n + 1 := by
  intro b
  induction b with
  | zero =>
    intro n h
    rw [Lib.decDigits, dif_pos (by omega)]
    simp
  | succ b ih =>
    intro n h
    rw [Lib.decDigits]
    split
    · simp
    · have := ih (n / 10) (by omega)
      rw [List.length_append, List.length_singleton]
      omega
theorem fmt_impl (n : Nat) (hn : n ≤ 1000) : ∃ r, impl_FormatInt.f (n : Int) = some r ∧ r.data.toList = Lib.itoa (n : Int) ∧ r.size ≤ 1001 := by
  unfold impl_FormatInt.f strconv_Itoa_45.f
  rw [if_pos (by omega), if_pos (by omega)]
  refine ⟨_, rfl, rfl, ?_⟩
  have : (Lib.itoa (n : Int)).length ≤ n + 1 := by
    rw [Lib.itoa, if_neg (by omega), Int.toNat_natCast]
    exact digits_len n n (Nat.le_refl _)
  show (Lib.itoa (n : Int)).toArray.size ≤ 1001
  rw [List.size_toArray]
  omega

end Go.Proofs.YtjabgjlkemfofaaDoor.Lem
