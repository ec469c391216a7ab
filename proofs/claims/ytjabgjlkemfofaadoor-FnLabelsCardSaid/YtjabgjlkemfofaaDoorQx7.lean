/- The functions that the seat's statements reach, as plain Lean functions, and that the program's calls answer what they say; no condition beyond the values read. Written by a program of this session's over the kit's print. -/
import Derived.Shelf.LaysM
import Derived.Shelf.Vars
import Derived.Shelf.Strings.Split
import Derived.Test.YtjabgjlkemfofaaDoorQx0
namespace Go.Proofs.YtjabgjlkemfofaaDoor.Q
open Go.RowKit Go.Proofs.YtjabgjlkemfofaaDoorW.PrintWords Go.Proofs.YtjabgjlkemfofaaDoorW.PrintLast Go.Proofs.YtjabgjlkemfofaaDoorW.PrintMore
attribute [local go_sem] max2_int min2_int max_two min_two max_three min_three max_four min_four   -- for this text's walks alone
set_option linter.unusedVariables false
set_option linter.unusedSimpArgs false

/-! ### strings_Split: function 28 -/
open Go.Shelf in
def splitRen : Go.Shelf.Ren := ⟨fun | 146 => 28 | 221 => 46 | 268 => 58 | 138 => 59 | 143 => 60 | 195 => 77 | 197 => 78 | 218 => 79 | 219 => 80 | 260 => 92 | 217 => 93 | 225 => 94 | 224 => 95 | 267 => 96 | 266 => 102 | 314 => 103 | n => n, fun | 9 => 9 | 31 => 29 | 3 => 3 | 4 => 4 | 0 => 0 | 105 => 98 | 21 => 21 | 5 => 5 | 46 => 68 | 119 => 122 | 139 => 125 | 138 => 124 | 146 => 126 | 51 => 92 | n => n, fun | 1 => 0 | 3 => 2 | 4 => 3 | n => n⟩
open Go.Shelf in
theorem splitLay : LaysM.n146 Tryd.prog splitRen := {
  i0 := by kernel_rfl
  i3 := by kernel_rfl
  i4 := by kernel_rfl
  i5 := by kernel_rfl
  i9 := by kernel_rfl
  i21 := by kernel_rfl
  i31 := by kernel_rfl
  i46 := by kernel_rfl
  i51 := by kernel_rfl
  i105 := by kernel_rfl
  i138 := by kernel_rfl
  i139 := by kernel_rfl
  i146 := by kernel_rfl
  m1 := by kernel_rfl
  s1_3 := fun w h => Go.Proofs.cell_of_shapedOpen_int (zero := #[.int .i64 0]) (t := 3) h (of_decide_eq_true (by kernel_rfl)) (by kernel_rfl) rfl (by kernel_rfl) (by kernel_rfl) Tryd.underlying3
  m3 := by kernel_rfl
  m4 := by kernel_rfl
  mixed := by kernel_rfl
  f138 := Tryd.func59.trans (by kernel_rfl)
  f143 := Tryd.func60.trans (by kernel_rfl)
  f146 := Tryd.func28.trans (by kernel_rfl)
  f195 := Tryd.func77.trans (by kernel_rfl)
  f197 := Tryd.func78.trans (by kernel_rfl)
  f217 := Tryd.func93.trans (by kernel_rfl)
  f218 := Tryd.func79.trans (by kernel_rfl)
  f219 := Tryd.func80.trans (by kernel_rfl)
  f221 := Tryd.func46.trans (by kernel_rfl)
  f224 := Tryd.func95.trans (by kernel_rfl)
  f225 := Tryd.func94.trans (by kernel_rfl)
  f260 := Tryd.func92.trans (by kernel_rfl)
  f266 := Tryd.func102.trans (by kernel_rfl)
  f267 := Tryd.func96.trans (by kernel_rfl)
  f268 := Tryd.func58.trans (by kernel_rfl)
  f314 := Tryd.func103.trans (by kernel_rfl)
  t0 := Tryd.underlying0
  a0 := Tryd.isAgg0
  z0 := Tryd.sizeOf0
  v0 := Tryd.zeroValue0
  t3 := Tryd.underlying3
  a3 := Tryd.isAgg3
  z3 := Tryd.sizeOf3
  v3 := Tryd.zeroValue3
  t4 := Tryd.underlying4
  a4 := Tryd.isAgg4
  z4 := Tryd.sizeOf4
  v4 := Tryd.zeroValue4
  t5 := Tryd.underlying5
  a5 := Tryd.isAgg5
  z5 := Tryd.sizeOf5
  v5 := Tryd.zeroValue5
  t9 := Tryd.underlying9
  a9 := Tryd.isAgg9
  z9 := Tryd.sizeOf9
  v9 := Tryd.zeroValue9
  t21 := Tryd.underlying21
  a21 := Tryd.isAgg21
  z21 := Tryd.sizeOf21
  v21 := Tryd.zeroValue21
  t31 := Tryd.underlying29
  a31 := Tryd.isAgg29
  z31 := Tryd.sizeOf29
  v31 := Tryd.zeroValue29
  t46 := Tryd.underlying68
  a46 := Tryd.isAgg68
  z46 := Tryd.sizeOf68
  v46 := Tryd.zeroValue68
  t51 := Tryd.underlying92
  a51 := Tryd.isAgg92
  z51 := Tryd.sizeOf92
  v51 := Tryd.zeroValue92
  t105 := Tryd.underlying98
  a105 := Tryd.isAgg98
  z105 := Tryd.sizeOf98
  v105 := Tryd.zeroValue98
  t119 := Tryd.underlying122
  a119 := Tryd.isAgg122
  z119 := Tryd.sizeOf122
  t138 := Tryd.underlying124
  a138 := Tryd.isAgg124
  z138 := Tryd.sizeOf124
  v138 := Tryd.zeroValue124
  t139 := Tryd.underlying125
  a139 := Tryd.isAgg125
  z139 := Tryd.sizeOf125
  v139 := Tryd.zeroValue125
  t146 := Tryd.underlying126
  a146 := Tryd.isAgg126
  z146 := Tryd.sizeOf126
  v146 := Tryd.zeroValue126
  g1 := by kernel_rfl
  g3 := by kernel_rfl
  g4 := by kernel_rfl }
/-- internal/bytealg.MaxLen holds some number. -/
def MaxIs (w : World) : Prop := (∃ m, w.cell? ⟨0, 0, none⟩ = some (.int .i64 m)) ∧ 0 < w.heap.size
theorem MaxIs.below {w w' : World} (h : MaxIs w) (hb : Below w.heap.size w w') : MaxIs w' := by
  obtain ⟨⟨m, hm⟩, h2⟩ := h
  exact ⟨⟨m, by rw [hb.cell (p := ⟨0, 0, none⟩) h2]; exact hm⟩, Nat.lt_of_lt_of_le h2 hb.size⟩
/-- The pieces of a text between the separators. -/
def splitL (s sep : ByteArray) : List ByteArray := Lib.splitB sep 0 (Lib.countB s sep) s
def strings_Split.f (a0 a1 : ByteArray) : Option (List ByteArray) := if a0.size < 4294967281 then (if 1 ≤ a1.size then (some (splitL a0 a1)) else (none)) else (none)
theorem strings_Split.calls (a0 a1 : ByteArray) (r : List ByteArray) (w : World) (h : strings_Split.f a0 a1 = some r) (hT : MaxIs w := by refine MaxIs.below HTM.out ?_; repeat (first | (with_reducible first | exact HB.out | apply below_alloc | apply pw_below_drewN | apply below_drew1) | exact HB.out)) :
    Calls Tryd.prog 28 #[.string a0, .string a1] w fun e w' => ∃ v0_ : Value, e = .returned (v0_) ∧ Kd.R Kd.string 9 w' w.heap.size (fun _ => True) v0_ r ∧ Below w.heap.size w w' := by
  unfold strings_Split.f at h
  by_cases h0 : a0.size < 4294967281
  · rw [if_pos h0] at h
    by_cases h1 : 1 ≤ a1.size
    · rw [if_pos h1] at h
      obtain rfl := Option.some.inj h
      obtain ⟨m, hm⟩ := hT.1
      have hlen : (splitL a0 a1).length = Lib.countB a0 a1 + 1 := Lib.splitB_all a1 h1 0 _ a0 rfl
      have hle := Lib.countB_le a1 h1 a0.size a0 (Nat.le_refl _)
      refine (Any.strings_Split { splitLay with } splitLay.i9 a0 a1 m w h0 hm h1).mono ?_
      rintro e w' ⟨rfl, rfl⟩
      rw [← hlen]
      have hrep : Reps ((Kd.string).M (w.alloc (.cells ((splitL a0 a1).map Value.string).toArray 9)) w.heap.size (fun k => True ∧ some k ≠ some w.heap.size)) (Kd.string).sz (splitL a0 a1) ((splitL a0 a1).map Value.string) := by
        refine ⟨by rw [List.length_map]; exact (Nat.mul_one _).symm, fun j p hj => ?_⟩
        have e : (((splitL a0 a1).map Value.string).drop (j * (Kd.string).sz)).take (Kd.string).sz = [.string p] := by
          rw [show (Kd.string).sz = 1 from rfl, Nat.mul_one]
          apply List.ext_getElem?
          intro c
          cases c with
          | zero => rw [List.getElem?_take_of_lt (by omega), List.getElem?_drop, List.getElem?_map, Nat.add_zero, hj]; rfl
          | succ c => rw [List.getElem?_eq_none (by rw [List.length_take]; omega), List.getElem?_eq_none (by simp)]
        rw [e]
        exact rfl
      refine ⟨_, rfl, ⟨fun _ _ => trivial, (splitL a0 a1).map Value.string, ?_, ?_⟩, below_alloc (Below.refl _ _) _⟩
      · exact World.ownsRow_lit (base := w.heap.size) (e := 9) (size := 1) w ((splitL a0 a1).map Value.string).toArray (splitL a0 a1).length (Nat.le_refl _) (by unfold maxLen; omega) (by simp)
      · exact hrep
    · rw [if_neg h1] at h
      exact absurd h (by simp)
  · rw [if_neg h0] at h
    exact absurd h (by simp)

end Go.Proofs.YtjabgjlkemfofaaDoor.Q
