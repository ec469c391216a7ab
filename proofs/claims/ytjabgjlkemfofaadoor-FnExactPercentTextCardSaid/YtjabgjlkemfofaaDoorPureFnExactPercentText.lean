/- FnExactPercentText: the program's PercentText answers as the reference's does, at all arguments; no condition. -/
import Derived.Test.YtjabgjlkemfofaaDoorQx0
import Derived.Test.YtjabgjlkemfofaaDoorQx4
import Derived.Test.YtjabgjlkemfofaaDoorQx14
import Derived.Test.YtjabgjlkemfofaaDoorQx15
import Derived.Test.YtjabgjlkemfofaaDoorLembase
import Derived.Test.YtjabgjlkemfofaaDoorLemin
import Derived.Test.YtjabgjlkemfofaaDoorLemstPart1
import Derived.Test.YtjabgjlkemfofaaDoorLempartsD
import Derived.Test.YtjabgjlkemfofaaDoorLemfmtA
namespace Go.Proofs.YtjabgjlkemfofaaDoor.Pure
open Go.RowKit Go.Proofs.YtjabgjlkemfofaaDoor.Q Go.Proofs.YtjabgjlkemfofaaDoorW.PrintWords Go.Proofs.YtjabgjlkemfofaaDoorW.PrintLast Go.Proofs.YtjabgjlkemfofaaDoorW.PrintMore Go.Proofs.YtjabgjlkemfofaaDoor.Lem
set_option linter.unusedVariables false
set_option linter.unusedSimpArgs false
theorem ok_len {l : List S26} (h : partsOk l = true) : 1 ≤ l.length ∧ l.length ≤ 12 ∧ ∀ y ∈ l, amB y = true := by
  unfold partsOk namesB at h
  simp only [Bool.and_eq_true, List.length_map, decide_eq_true_eq, List.all_eq_true] at h
  exact ⟨by omega, by omega, h.2⟩
theorem toList_data (b : ByteArray) : b.toList = b.data.toList := Go.Lib.toList_data b
theorem eq_of_data {a b : ByteArray} (h : a.data.toList = b.data.toList) : a = b := by
  cases a with
  | mk a =>
    cases b with
    | mk b => exact congrArg ByteArray.mk (Array.toList_inj.1 h)
theorem FnExactPercentText : laws_FnExactPercentText.Pure := by
  intro x g w hx hg hw
  unfold maxLen at hx
  have hg2 := wf64 hg
  have hw2 := wf64 hw
  refine ⟨1100000, ?_⟩
  unfold laws_FnExactPercentText.f
  obtain ⟨q, hq, hc⟩ := szPart_ok x g 1048576 hx (by omega) (by omega)
  rw [hq]
  simp only [Option.bind_some]
  by_cases hb : q < 0
  · rw [if_pos hb]
  rw [if_neg hb]
  obtain ⟨_, _, hs⟩ := hc.resolve_left hb
  rw [toPart_ok]
  simp only [Option.bind_some]
  have hl : ([(⟨x, g⟩ : S26)]).length ≤ 1000000000 := by simp
  have hB : ∀ y ∈ [(⟨x, g⟩ : S26)], y.f0.size ≤ 1048576 := fun y hy => by
    rw [List.mem_singleton] at hy
    subst hy
    exact hs
  have e1 := parts_spec [(⟨x, g⟩ : S26)] hl 1048576 hB (by omega) 1100000 (by rw [List.length_singleton]; omega)
  have e2 := parts_impl [(⟨x, g⟩ : S26)] hl 1048576 hB (by omega) 1100000 (by rw [List.length_singleton]; omega)
  have same : ∃ t, spec_PercentText.f 1100000 x g w = some t ∧ impl_PercentText.f 1100000 x g w = some t := by
    by_cases hp : partsOk [(⟨x, g⟩ : S26)] = true
    · by_cases hi : g ≤ w ∧ w ≤ 1000000
      · have hok := (ok_len hp).2.2 (⟨x, g⟩ : S26) (by simp)
        have hg3 := of_decide_eq_true hok
        have hg4 : 1 ≤ g ∧ g ≤ 100000 := hg3
        obtain ⟨n, hn⟩ : ∃ n : Nat, n = (g.toNat * 100) / w.toNat := ⟨_, rfl⟩
        have hd : Int.tdiv (g * 100) w = (n : Int) := by
          rw [Int.tdiv_eq_ediv_of_nonneg (by omega), hn, Int.natCast_ediv, Int.natCast_mul, Int.toNat_of_nonneg (by omega), Int.toNat_of_nonneg (by omega)]
          rfl
        have hn2 : n ≤ 100 := by
          rw [hn]
          apply Nat.div_le_of_le_mul
          have : g.toNat ≤ w.toNat := by omega
          exact Nat.mul_le_mul_right 100 this
        clear hn
        obtain ⟨r1, h1, d1⟩ := fmt_spec n 1100000 (by omega) (by omega)
        obtain ⟨r2, h2, d2, z2⟩ := fmt_impl n (by omega)
        have er : r1 = r2 := eq_of_data (d1.trans d2.symm)
        subst er
        have ez : (⟨#[32]⟩ : ByteArray).size = 1 := rfl
        have hz1 : (x ++ (⟨#[32]⟩ : ByteArray)).size + r1.size ≤ 9223372036854775807 := by
          rw [ByteArray.size_append, ez]
          omega
        have hz2 : ((x ++ (⟨#[32]⟩ : ByteArray)) ++ r1).size + 1 ≤ 9223372036854775807 := by
          rw [ByteArray.size_append, ByteArray.size_append, ez]
          omega
        refine ⟨((x ++ (⟨#[32]⟩ : ByteArray)) ++ r1) ++ (⟨#[37]⟩ : ByteArray), ?_, ?_⟩
        · unfold spec_PercentText.f
          rw [e1]
          simp only [Option.bind_some, in_spec]
          rw [if_pos hp, decide_eq_true hi, if_pos rfl, if_pos (by omega), if_neg (by omega), w64 (n := g * 100) (by omega) (by omega), hd, w64 (n := (n : Int)) (by omega) (by omega), h1]
          simp only [Option.bind_some]
          rw [if_pos hz1, if_pos hz2]
        · unfold impl_PercentText.f
          rw [e2]
          simp only [Option.bind_some, in_impl]
          rw [if_pos hp, decide_eq_true hi, if_pos rfl, if_pos (by omega), if_neg (by omega), w64 (n := g * 100) (by omega) (by omega), hd, w64 (n := (n : Int)) (by omega) (by omega), h2]
          simp only [Option.bind_some]
          rw [if_pos hz1, if_pos hz2]
      · refine ⟨(⟨#[]⟩ : ByteArray), ?_, ?_⟩
        · unfold spec_PercentText.f
          rw [e1]
          simp only [Option.bind_some, in_spec]
          rw [if_pos hp, decide_eq_false hi, if_neg (by simp)]
        · unfold impl_PercentText.f
          rw [e2]
          simp only [Option.bind_some, in_impl]
          rw [if_pos hp, decide_eq_false hi, if_neg (by simp)]
    · refine ⟨(⟨#[]⟩ : ByteArray), ?_, ?_⟩
      · unfold spec_PercentText.f
        rw [e1]
        simp only [Option.bind_some]
        rw [if_neg hp]
      · unfold impl_PercentText.f
        rw [e2]
        simp only [Option.bind_some]
        rw [if_neg hp]
  obtain ⟨t, h1, h2⟩ := same
  rw [h1, h2]
  simp only [Option.bind_some, if_true]

end Go.Proofs.YtjabgjlkemfofaaDoor.Pure
