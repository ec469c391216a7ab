/- The functions that the seat's statements reach, as plain Lean functions, and that the program's calls answer what they say; no condition beyond the values read. Written by a program of this session's over the kit's print. -/
import Derived.Shelf.Strings.OnBuilder
import Derived.Test.YtjabgjlkemfofaaDoorQx0
namespace Go.Proofs.YtjabgjlkemfofaaDoor.Q
open Go.RowKit Go.Proofs.YtjabgjlkemfofaaDoorW.PrintWords Go.Proofs.YtjabgjlkemfofaaDoorW.PrintLast Go.Proofs.YtjabgjlkemfofaaDoorW.PrintMore
attribute [local go_sem] max2_int min2_int max_two min_two max_three min_three max_four min_four   -- for this text's walks alone
set_option linter.unusedVariables false
set_option linter.unusedSimpArgs false

/-! ### strings_Join: function 38 -/
open Go.Shelf in
def joinRen : Go.Shelf.Ren := ⟨fun | 156 => 38 | 165 => 53 | 166 => 54 | 169 => 55 | 240 => 74 | 241 => 75 | 276 => 86 | 277 => 87 | n => n, fun | 31 => 29 | 9 => 9 | 3 => 3 | 4 => 4 | 0 => 0 | 20 => 20 | 72 => 72 | 76 => 76 | 70 => 70 | 37 => 35 | 75 => 75 | 127 => 95 | 164 => 107 | 5 => 5 | 80 => 78 | n => n, fun n => n⟩
open Go.Shelf in
theorem joinLay : Lays.n156 Tryd.prog joinRen := {
  mixed := by kernel_rfl
  f156 := Tryd.func38.trans (by kernel_rfl)
  f165 := Tryd.func53.trans (by kernel_rfl)
  f166 := Tryd.func54.trans (by kernel_rfl)
  f169 := Tryd.func55.trans (by kernel_rfl)
  f240 := Tryd.func74.trans (by kernel_rfl)
  f241 := Tryd.func75.trans (by kernel_rfl)
  f276 := Tryd.func86.trans (by kernel_rfl)
  f277 := Tryd.func87.trans (by kernel_rfl)
  t0 := Tryd.underlying0
  a0 := Tryd.isAgg0
  z0 := Tryd.sizeOf0
  v0 := Tryd.zeroValue0
  t3 := Tryd.underlying3
  a3 := Tryd.isAgg3
  z3 := Tryd.sizeOf3
  v3 := Tryd.zeroValue3
  t4 := Tryd.underlying4
  a4 := Tryd.isAgg4
  z4 := Tryd.sizeOf4
  v4 := Tryd.zeroValue4
  t9 := Tryd.underlying9
  a9 := Tryd.isAgg9
  z9 := Tryd.sizeOf9
  v9 := Tryd.zeroValue9
  t20 := Tryd.underlying20
  a20 := Tryd.isAgg20
  z20 := Tryd.sizeOf20
  v20 := Tryd.zeroValue20
  t31 := Tryd.underlying29
  a31 := Tryd.isAgg29
  z31 := Tryd.sizeOf29
  v31 := Tryd.zeroValue29
  t37 := Tryd.underlying35
  a37 := Tryd.isAgg35
  z37 := Tryd.sizeOf35
  v37 := Tryd.zeroValue35
  t70 := Tryd.underlying70
  a70 := Tryd.isAgg70
  z70 := Tryd.sizeOf70
  v70 := Tryd.zeroValue70
  t72 := Tryd.underlying72
  a72 := Tryd.isAgg72
  z72 := Tryd.sizeOf72
  v72 := Tryd.zeroValue72
  t75 := Tryd.underlying75
  a75 := Tryd.isAgg75
  z75 := Tryd.sizeOf75
  v75 := Tryd.zeroValue75
  t76 := Tryd.underlying76
  a76 := Tryd.isAgg76
  z76 := Tryd.sizeOf76
  v76 := Tryd.zeroValue76
  t127 := Tryd.underlying95
  a127 := Tryd.isAgg95
  z127 := Tryd.sizeOf95
  v127 := Tryd.zeroValue95
  t164 := Tryd.underlying107
  a164 := Tryd.isAgg107
  z164 := Tryd.sizeOf107
  v164 := Tryd.zeroValue107 }
theorem joinX : Builder.Extra Tryd.prog joinRen := {
  sizeBuilder := by kernel_rfl
  liesBuilder := by kernel_rfl
  t5 := Tryd.underlying5
  a5 := Tryd.isAgg5
  z5 := Tryd.sizeOf5
  v5 := Tryd.zeroValue5
  infoByte := by kernel_rfl
  cellsByte := by kernel_rfl
  sizeByte := by kernel_rfl
  neB5 := by decide }
/-- The texts of a row, a separator between them. -/
def joinB (l : List ByteArray) (s : ByteArray) : ByteArray := ⟨(Lib.join (l.map (·.data.toList)) s.data.toList).toArray⟩
def strings_Join.f (l0 : List ByteArray) (a1 : ByteArray) : Option (ByteArray) := if l0.length ≤ 140737488355328 then (if (Lib.join (l0.map (·.data.toList)) a1.data.toList).length ≤ 140737488355328 then (some (joinB l0 a1)) else (none)) else (none)
theorem strings_Join.calls (A0 : Option Addr) (c0 : Nat) (l0 : List ByteArray) (a1 : ByteArray) (r : ByteArray) (w : World) (hr0 : Kd.C Kd.string w A0 l0.length l0) (hc0 : l0.length ≤ c0) (h : strings_Join.f l0 a1 = some r) :
    Calls Tryd.prog 38 #[.slice A0 l0.length c0, .string a1] w fun e w' => e = .returned (.string r) ∧ Below w.heap.size w w' := by
  unfold strings_Join.f at h
  by_cases hN : l0.length ≤ 140737488355328
  · rw [if_pos hN] at h
    by_cases hlen : (Lib.join (l0.map (·.data.toList)) a1.data.toList).length ≤ 140737488355328
    · rw [if_pos hlen] at h
      obtain rfl := Option.some.inj h
      cases l0 with
      | nil => exact (Any.strings_Join_none joinLay joinX A0 c0 a1 w).mono fun e w' ⟨he, hw⟩ => ⟨he, hw ▸ Below.refl _ _⟩
      | cons x l =>
        obtain ⟨hn, hm, hx⟩ := hr0
        obtain ⟨ad, rfl, hcells⟩ := hx (by simp)
        have hc : ∀ j y, (x :: l)[j]? = some y → w.cell? (ad.add j) = some (.string y) := by
          intro j y hj
          obtain ⟨cs, hcl, hK, hq⟩ := hcells j y hj
          obtain rfl : cs = [.string y] := hK
          have := hq 0 _ rfl
          rwa [show (Kd.string).sz = 1 from rfl, Nat.mul_one, Nat.add_zero] at this
        obtain ⟨b, off, spot⟩ := ad
        have h2 := hc 0 x rfl
        have hsp : spot = none := by
          cases spot with
          | none => rfl
          | some s =>
            exfalso
            unfold World.cell? at h2
            cases hb : w.heap[(Addr.add ⟨b, off, some s⟩ 0).block]? with
            | none => rw [hb] at h2; cases h2
            | some o =>
              rw [hb] at h2
              cases o <;> simp [Addr.add] at h2
        subst hsp
        have hbk : b < w.heap.size := World.block_lt_of_cell? w _ h2
        exact Any.strings_Join joinLay joinX b off c0 (x :: l) a1 w (fun j y hj => by have := hc j y hj; rwa [add_at] at this) hbk hN hc0 hlen
    · rw [if_neg hlen] at h
      exact absurd h (by simp)
  · rw [if_neg hN] at h
    exact absurd h (by simp)

end Go.Proofs.YtjabgjlkemfofaaDoor.Q
