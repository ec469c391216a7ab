/- The functions that the seat's statements reach, as plain Lean functions, and that the program's calls answer what they say; no condition beyond the values read. Written by a program of this session's over the kit's print. -/
import Derived.Shelf.SlicesE.Clone
import Derived.Test.YtjabgjlkemfofaaDoorQx0
import Derived.Test.YtjabgjlkemfofaaDoorQx15
namespace Go.Proofs.YtjabgjlkemfofaaDoor.Q
open Go.RowKit Go.Proofs.YtjabgjlkemfofaaDoorW.PrintWords Go.Proofs.YtjabgjlkemfofaaDoorW.PrintLast Go.Proofs.YtjabgjlkemfofaaDoorW.PrintMore
attribute [local go_sem] max2_int min2_int max_two min_two max_three min_three max_four min_four   -- for this text's walks alone
set_option linter.unusedVariables false
set_option linter.unusedSimpArgs false

/-! ### impl_Part_33: function 33 -/
open Go.Shelf in
def cloRen : Go.Shelf.Ren := ⟨fun | 41 => 33 | n => n, fun | 22 => 37 | 23 => 26 | n => n, fun n => n⟩
open Go.Shelf in
theorem cloLay : SlLaysE0.n41 Tryd.prog cloRen := {
  mixed := by kernel_rfl
  f41 := ⟨Tryd.f33.name, by decide, Tryd.func33.trans (by kernel_rfl)⟩
  t4 := Tryd.underlying4
  a4 := Tryd.isAgg4
  z4 := Tryd.sizeOf4
  v4 := Tryd.zeroValue4
  t22 := Tryd.underlying37
  a22 := Tryd.isAgg37
  z22 := Tryd.sizeOf37
  v22 := Tryd.zeroValue37 }
def impl_Part_33.f (l0 : List S26) : Option (List S26) := if 0 < l0.length then (if l0.length ≤ 1000000 then (some l0) else (none)) else (none)
theorem impl_Part_33.calls (A0 : Option Addr) (c0 : Nat) (l0 r : List S26) (w : World) (hr0 : Kd.C k26 w A0 l0.length l0) (hc0 : l0.length ≤ c0) (h : impl_Part_33.f l0 = some r) :
    Calls Tryd.prog 33 #[.slice A0 l0.length c0] w fun e w' => ∃ v0_ : Value, e = .returned (v0_) ∧ Kd.R k26 26 w' w.heap.size (fun _ => True) v0_ r ∧ Below w.heap.size w w' := by
  unfold impl_Part_33.f at h
  by_cases h0 : 0 < l0.length
  · rw [if_pos h0] at h
    by_cases h1 : l0.length ≤ 1000000
    · rw [if_pos h1] at h
      obtain rfl := Option.some.inj h
      obtain ⟨hn, hm, hx⟩ := hr0
      obtain ⟨ad, rfl, hcells⟩ := hx h0
      have hc : ∀ i (hi : i < l0.length) c, c < 2 → w.cell? (ad.add (i * 2 + c)) = some (encP l0[i])[c]! := by
        intro i hi c hc
        obtain ⟨cs, _, hK, hq⟩ := hcells i l0[i] (List.getElem?_eq_getElem hi)
        obtain rfl := k26_open hK
        have := hq c (encP l0[i])[c]! (by
          have : c = 0 ∨ c = 1 := by omega
          rcases this with rfl | rfl <;> rfl)
        exact this
      obtain ⟨b, off, spot⟩ := ad
      have hsp : spot = none := by
        have h2 := hc 0 h0 0 (by omega)
        cases spot with
        | none => rfl
        | some s =>
          exfalso
          unfold World.cell? at h2
          cases hb : w.heap[(Addr.add ⟨b, off, some s⟩ (0 * 2 + 0)).block]? with
          | none => rw [hb] at h2; cases h2
          | some o =>
            rw [hb] at h2
            cases o <;> simp [Addr.add] at h2
      subst hsp
      have hF : (Go.Sort.flatK encP 2 l0.toArray).size = l0.length * 2 := by rw [Go.Sort.size_flatK, List.size_toArray]
      have hflat : ∀ t, t < l0.length * 2 → (Go.Sort.flatK encP 2 l0.toArray).toList[t]? = some (encP (l0.getD (t / 2) z26))[t % 2]! := by
        intro t ht
        rw [Array.getElem?_toList, Array.getElem?_eq_getElem (by omega), ← getElem!_pos _ t (by omega), Go.Sort.get_flatK _ _ _ _ (by rw [List.size_toArray]; exact ht)]
        have e : l0.toArray[t / 2]! = l0.getD (t / 2) z26 := by
          have : t / 2 < l0.length := by omega
          simp [this]
        rw [e]
      have hinf := info26
      cases hI : Tryd.prog.info? 26 with
      | none => rw [hI] at hinf; cases hinf
      | some i0 =>
        rw [hI] at hinf
        simp only [Option.map_some, Option.some.injEq, Prod.mk.injEq] at hinf
        obtain ⟨i1, i2, i3⟩ := hinf
        refine (AnyE.slices_Clone cloLay i0 _ 2 24 hI i1 i2 i3 rfl (by decide) Tryd.sizeOf26 b off l0.length c0 (Go.Sort.flatK encP 2 l0.toArray).toList w (by rw [Array.length_toList, hF]) (by unfold maxLen; omega) (by omega) (fun j u hj => ?_) (fun u hu => ?_)).mono ?_
        · have hj2 : j < l0.length * 2 := by
            obtain ⟨hj3, _⟩ := List.getElem?_eq_some_iff.1 hj
            rw [Array.length_toList] at hj3
            omega
          rw [hflat j hj2] at hj
          cases hj
          have := hc (j / 2) (by omega) (j % 2) (by omega)
          rw [add_at, show j / 2 * 2 + j % 2 = j by omega] at this
          rw [this, List.getD_eq_getElem?_getD, List.getElem?_eq_getElem (by omega), Option.getD_some]
        · obtain ⟨j, hj, rfl⟩ := List.mem_iff_getElem.1 hu
          have hj2 : j < l0.length * 2 := by
            rw [Array.length_toList] at hj
            omega
          have := hflat j hj2
          rw [List.getElem?_eq_getElem hj] at this
          rw [Option.some.inj this]
          have : j % 2 = 0 ∨ j % 2 = 1 := by omega
          rcases this with e | e <;> rw [e] <;> rfl
        · rintro e w' ⟨v', rfl, hown, _, hb⟩
          refine ⟨v', rfl, ⟨fun _ _ => trivial, _, hown, ?_, fun j p hj => ?_⟩, hb⟩
          · show (Go.Sort.flatK encP 2 l0.toArray).toList.length = l0.length * 2
            rw [Array.length_toList, hF]
          · obtain ⟨hjl, hp⟩ := List.getElem?_eq_some_iff.1 hj
            have e : ((Go.Sort.flatK encP 2 l0.toArray).toList.drop (j * 2)).take 2 = encP p := by
              have hg : ∀ c, c < 2 → (Go.Sort.flatK encP 2 l0.toArray).toList[j * 2 + c]? = some (encP p)[c]! := by
                intro c hc
                rw [hflat _ (by omega), show (j * 2 + c) / 2 = j by omega, show (j * 2 + c) % 2 = c by omega, List.getD_eq_getElem?_getD, hj, Option.getD_some]
              apply List.ext_getElem?
              intro c
              by_cases hc : c < 2
              · rw [List.getElem?_take_of_lt hc, List.getElem?_drop, hg c hc]
                have : c = 0 ∨ c = 1 := by omega
                rcases this with rfl | rfl <;> rfl
              · rw [List.getElem?_eq_none (by rw [List.length_take]; omega), List.getElem?_eq_none (by show 2 ≤ c; omega)]
            rw [show (k26).sz = 2 from rfl, e]
            exact k26_mkM _ _ _ p
    · rw [if_neg h1] at h
      exact absurd h (by simp)
  · rw [if_neg h0] at h
    exact absurd h (by simp)

end Go.Proofs.YtjabgjlkemfofaaDoor.Q
