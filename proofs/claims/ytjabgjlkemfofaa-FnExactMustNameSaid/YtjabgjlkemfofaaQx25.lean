/- The functions that the seat's statements reach, as plain Lean functions, and that the program's calls answer what they say; no condition beyond the values read. Written by a program of this session's over the kit's print. -/
import Derived.Shelf.Strings.OnBuilder
import Derived.Test.YtjabgjlkemfofaaQx0
namespace Go.Proofs.Ytjabgjlkemfofaa.Q
open Go.RowKit Go.Proofs.YtjabgjlkemfofaaW.PrintWords Go.Proofs.YtjabgjlkemfofaaW.PrintLast Go.Proofs.YtjabgjlkemfofaaW.PrintMore
attribute [local go_sem] max2_int min2_int max_two min_two max_three min_three max_four min_four   -- for this text's walks alone
set_option linter.unusedVariables false
set_option linter.unusedSimpArgs false

/-! ### strings_Join: function 39 -/
open Go.Shelf in
def joinRen : Go.Shelf.Ren := ⟨fun | 156 => 39 | 165 => 48 | 166 => 49 | 169 => 50 | 240 => 63 | 241 => 64 | 276 => 70 | 277 => 71 | n => n, fun | 31 => 32 | 9 => 9 | 3 => 3 | 4 => 4 | 0 => 0 | 20 => 20 | 72 => 65 | 76 => 69 | 70 => 63 | 37 => 62 | 75 => 68 | 127 => 85 | 164 => 92 | 5 => 5 | 80 => 71 | n => n, fun n => n⟩
open Go.Shelf in
theorem joinLay : Lays.n156 Try.prog joinRen := {
  mixed := by kernel_rfl
  f156 := Try.func39.trans (by kernel_rfl)
  f165 := Try.func48.trans (by kernel_rfl)
  f166 := Try.func49.trans (by kernel_rfl)
  f169 := Try.func50.trans (by kernel_rfl)
  f240 := Try.func63.trans (by kernel_rfl)
  f241 := Try.func64.trans (by kernel_rfl)
  f276 := Try.func70.trans (by kernel_rfl)
  f277 := Try.func71.trans (by kernel_rfl)
  t0 := Try.underlying0
  a0 := Try.isAgg0
  z0 := Try.sizeOf0
  v0 := Try.zeroValue0
  t3 := Try.underlying3
  a3 := Try.isAgg3
  z3 := Try.sizeOf3
  v3 := Try.zeroValue3
  t4 := Try.underlying4
  a4 := Try.isAgg4
  z4 := Try.sizeOf4
  v4 := Try.zeroValue4
  t9 := Try.underlying9
  a9 := Try.isAgg9
  z9 := Try.sizeOf9
  v9 := Try.zeroValue9
  t20 := Try.underlying20
  a20 := Try.isAgg20
  z20 := Try.sizeOf20
  v20 := Try.zeroValue20
  t31 := Try.underlying32
  a31 := Try.isAgg32
  z31 := Try.sizeOf32
  v31 := Try.zeroValue32
  t37 := Try.underlying62
  a37 := Try.isAgg62
  z37 := Try.sizeOf62
  v37 := Try.zeroValue62
  t70 := Try.underlying63
  a70 := Try.isAgg63
  z70 := Try.sizeOf63
  v70 := Try.zeroValue63
  t72 := Try.underlying65
  a72 := Try.isAgg65
  z72 := Try.sizeOf65
  v72 := Try.zeroValue65
  t75 := Try.underlying68
  a75 := Try.isAgg68
  z75 := Try.sizeOf68
  v75 := Try.zeroValue68
  t76 := Try.underlying69
  a76 := Try.isAgg69
  z76 := Try.sizeOf69
  v76 := Try.zeroValue69
  t127 := Try.underlying85
  a127 := Try.isAgg85
  z127 := Try.sizeOf85
  v127 := Try.zeroValue85
  t164 := Try.underlying92
  a164 := Try.isAgg92
  z164 := Try.sizeOf92
  v164 := Try.zeroValue92 }
theorem joinX : Builder.Extra Try.prog joinRen := {
  sizeBuilder := by kernel_rfl
  liesBuilder := by kernel_rfl
  t5 := Try.underlying5
  a5 := Try.isAgg5
  z5 := Try.sizeOf5
  v5 := Try.zeroValue5
  infoByte := by kernel_rfl
  cellsByte := by kernel_rfl
  sizeByte := by kernel_rfl
  neB5 := by decide }
/-- The texts of a row, a separator between them. -/
def joinB (l : List ByteArray) (s : ByteArray) : ByteArray := ⟨(Lib.join (l.map (·.data.toList)) s.data.toList).toArray⟩
def strings_Join.f (l0 : List ByteArray) (a1 : ByteArray) : Option (ByteArray) := if l0.length ≤ 140737488355328 then (if (Lib.join (l0.map (·.data.toList)) a1.data.toList).length ≤ 140737488355328 then (some (joinB l0 a1)) else (none)) else (none)
theorem strings_Join.calls (A0 : Option Addr) (c0 : Nat) (l0 : List ByteArray) (a1 : ByteArray) (r : ByteArray) (w : World) (hr0 : Kd.C Kd.string w A0 l0.length l0) (hc0 : l0.length ≤ c0) (h : strings_Join.f l0 a1 = some r) :
    Calls Try.prog 39 #[.slice A0 l0.length c0, .string a1] w fun e w' => e = .returned (.string r) ∧ Below w.heap.size w w' := by
  unfold strings_Join.f at h
  by_cases hN : l0.length ≤ 140737488355328
  · rw [if_pos hN] at h
    by_cases hlen : (Lib.join (l0.map (·.data.toList)) a1.data.toList).length ≤ 140737488355328
    · rw [if_pos hlen] at h
      obtain rfl := Option.some.inj h
      cases l0 with
      | nil => exact (Any.strings_Join_none joinLay joinX A0 c0 a1 w).mono fun e w' ⟨he, hw⟩ => ⟨he, hw ▸ Below.refl _ _⟩
      | cons x l =>
        obtain ⟨hn, hm, hx⟩ := hr0
        obtain ⟨ad, rfl, hcells⟩ := hx (by simp)
        have hc : ∀ j y, (x :: l)[j]? = some y → w.cell? (ad.add j) = some (.string y) := by
          intro j y hj
          obtain ⟨cs, hcl, hK, hq⟩ := hcells j y hj
          obtain rfl : cs = [.string y] := hK
          have := hq 0 _ rfl
          rwa [show (Kd.string).sz = 1 from rfl, Nat.mul_one, Nat.add_zero] at this
        obtain ⟨b, off, spot⟩ := ad
        have h2 := hc 0 x rfl
        have hsp : spot = none := by
          cases spot with
          | none => rfl
          | some s =>
            exfalso
            unfold World.cell? at h2
            cases hb : w.heap[(Addr.add ⟨b, off, some s⟩ 0).block]? with
            | none => rw [hb] at h2; cases h2
            | some o =>
              rw [hb] at h2
              cases o <;> simp [Addr.add] at h2
        subst hsp
        have hbk : b < w.heap.size := World.block_lt_of_cell? w _ h2
        exact Any.strings_Join joinLay joinX b off c0 (x :: l) a1 w (fun j y hj => by have := hc j y hj; rwa [add_at] at this) hbk hN hc0 hlen
    · rw [if_neg hlen] at h
      exact absurd h (by simp)
  · rw [if_neg hN] at h
    exact absurd h (by simp)

end Go.Proofs.Ytjabgjlkemfofaa.Q
