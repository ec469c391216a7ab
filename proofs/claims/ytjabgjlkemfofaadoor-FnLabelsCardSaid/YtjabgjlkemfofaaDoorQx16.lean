/- The functions that the seat's statements reach, as plain Lean functions, and that the program's calls answer what they say; no condition beyond the values read. Written by a program of this session's over the kit's print. -/
import Derived.Test.YtjabgjlkemfofaaDoorQx0
import Derived.Test.YtjabgjlkemfofaaDoorQx2
import Derived.Test.YtjabgjlkemfofaaDoorQx13
import Derived.Test.YtjabgjlkemfofaaDoorQx14
import Derived.Test.YtjabgjlkemfofaaDoorQx15
namespace Go.Proofs.YtjabgjlkemfofaaDoor.Q
open Go.RowKit Go.Proofs.YtjabgjlkemfofaaDoorW.PrintWords Go.Proofs.YtjabgjlkemfofaaDoorW.PrintLast Go.Proofs.YtjabgjlkemfofaaDoorW.PrintMore
attribute [local go_sem] max2_int min2_int max_two min_two max_three min_three max_four min_four   -- for this text's walks alone
set_option linter.unusedVariables false
set_option linter.unusedSimpArgs false

/-! ### impl_SortedParts: function 17 -/
def impl_SortedParts.f (k : Nat) (l0 : List S26) : Option (List S26) := (impl_PartsOk.f k l0).bind fun t => (if t = true then ((impl_Part_33.f l0).bind fun y => ((impl_Part_34.f k y).bind fun z => (some z))) else (some []))
theorem impl_SortedParts.mono : ∀ a0 k, LeO (impl_SortedParts.f k a0) (impl_SortedParts.f (k + 1) a0) := by
  intro a0 k
  unfold impl_SortedParts.f
  refine LeO.bind (impl_PartsOk.mono _ _) (fun _ => LeO.ite (LeO.bind (LeO.refl _) (fun _ => LeO.bind ?_ (fun _ => LeO.refl _))) (LeO.refl _))
  unfold impl_Part_34.f
  exact LeO.bind (bits_Len.mono _ _) (fun _ => LeO.refl _)
set_option maxHeartbeats 8000000 in
set_option maxRecDepth 100000 in
theorem impl_SortedParts.calls (k : Nat) (A0 : Option Addr) (c0 : Nat) (l0 r : List S26) (w : World) (hr0 : Kd.C k26 w A0 l0.length l0) (hc0 : l0.length ≤ c0) (h : impl_SortedParts.f k l0 = some r) :
    Calls Tryd.prog 17 #[.slice A0 l0.length c0] w fun e w' => ∃ v0_ : Value, e = .returned (v0_) ∧ Kd.R k26 26 w' w.heap.size (fun _ => True) v0_ r ∧ Below w.heap.size w w' := by
  have HR0 := Aside0.mk hr0
  have HC0 := Aside0.mk hc0
  clear hr0 hc0
  have HB := Aside0.mk (Below.refl w.heap.size w)
  obtain ⟨t, A1, H⟩ := Option.bind_eq_some_iff.mp h
  clear h
  have A1 := Aside0.mk A1
  by_cases c1 : t = true
  · subst c1
    rw [if_pos rfl] at H
    obtain ⟨y, A2, H⟩ := Option.bind_eq_some_iff.mp H
    obtain ⟨z, A3, H⟩ := Option.bind_eq_some_iff.mp H
    obtain rfl := Option.some.inj H
    have A2 := Aside0.mk A2
    have A3 := Aside0.mk A3
    clear H
    go_enter Tryd.func17, Tryd.ntmps17
    go_wp2_with (first | ((with_reducible refine gate_callee (f := 21) rfl ?_); refine goesL_ (some 5) rfl rfl Tryd.func21 (by kernel_rfl) rfl #[.slice A0 l0.length c0] rfl (by (try simp only [List.map_toArray, List.map_cons, List.map_nil]); first | done | rfl) ?_; (with_reducible refine (impl_PartsOk.calls k _ _ l0 true _ ?side1 ?side2 A1.out).mono ?_); (case side1 => exact HR0.out); (case side2 => exact HC0.out); rintro e w1 ⟨rfl, hb⟩; refine ⟨_, rfl, ?_⟩; have n1_ := Aside0.mk (below_step (by repeat (first | (with_reducible first | exact HB.out | apply below_alloc | apply pw_below_drewN | apply below_drew1) | exact HB.out)) hb); clear HB hb; have HB := n1_; clear n1_) | ((with_reducible refine gate_callee (f := 33) rfl ?_); refine goesL_ (some 8) rfl rfl Tryd.func33 (by kernel_rfl) rfl #[.slice A0 l0.length c0] rfl (by (try simp only [List.map_toArray, List.map_cons, List.map_nil]); first | done | rfl) ?_; (with_reducible refine (impl_Part_33.calls _ _ l0 y _ ?side1 ?side2 A2.out).mono ?_); (case side1 => exact Kd.C_below HR0.out (by repeat (first | (with_reducible first | exact HB.out | apply below_alloc | apply pw_below_drewN | apply below_drew1) | exact HB.out))); (case side2 => exact HC0.out); rintro e w2 ⟨v, rfl, ho, hb⟩; refine ⟨_, rfl, ?_⟩; have n0_ := Aside0.mk (Kd.R_lower ho (below_size (by repeat (first | (with_reducible first | exact HB.out | apply below_alloc | apply pw_below_drewN | apply below_drew1) | exact HB.out)))); have n1_ := Aside0.mk (below_step (by repeat (first | (with_reducible first | exact HB.out | apply below_alloc | apply pw_below_drewN | apply below_drew1) | exact HB.out)) hb); clear HB hb ho; have HO := n0_; have HB := n1_; clear n0_ n1_) | (go_at_call 34; refine (impl_Part_34.calls k v y z w.heap.size (fun _ => True) _ ?side1 A3.out).mono ?_; (case side1 => (with_reducible repeat (first | apply Kd.R_alloc | apply Kd.R_drewN | apply Kd.R_drew)); exact HO.out); rintro e w3 ⟨rfl, ho, hg⟩; have n0_ := Aside0.mk ho; have n1_ := Aside0.mk (pw_below_grown (by repeat (first | (with_reducible first | exact HB.out | apply below_alloc | apply pw_below_drewN | apply below_drew1) | exact HB.out)) _ (below_size (by repeat (first | (with_reducible first | exact HB.out | apply below_alloc | apply pw_below_drewN | apply below_drew1) | exact HB.out))) hg (fun k_ e_ => Kd.R_base ho k_ e_)); clear HB HO ho hg; have HO := n0_; have HB := n1_; clear n0_ n1_))
    go_ret
    exact ⟨_, rfl, by (with_reducible repeat (first | apply Kd.R_alloc | apply Kd.R_drewN | apply Kd.R_drew)); exact HO.out, by repeat (first | (with_reducible first | exact HB.out | apply below_alloc | apply pw_below_drewN | apply below_drew1) | exact HB.out)⟩
  · replace c1 := Bool.eq_false_iff.mpr c1
    subst c1
    rw [if_neg (by decide)] at H
    obtain rfl := Option.some.inj H
    clear H
    go_enter Tryd.func17, Tryd.ntmps17
    go_wp2_with (first | ((with_reducible refine gate_callee (f := 21) rfl ?_); refine goesL_ (some 5) rfl rfl Tryd.func21 (by kernel_rfl) rfl #[.slice A0 l0.length c0] rfl (by (try simp only [List.map_toArray, List.map_cons, List.map_nil]); first | done | rfl) ?_; (with_reducible refine (impl_PartsOk.calls k _ _ l0 false _ ?side1 ?side2 A1.out).mono ?_); (case side1 => exact HR0.out); (case side2 => exact HC0.out); rintro e w1 ⟨rfl, hb⟩; refine ⟨_, rfl, ?_⟩; have n1_ := Aside0.mk (below_step (by repeat (first | (with_reducible first | exact HB.out | apply below_alloc | apply pw_below_drewN | apply below_drew1) | exact HB.out)) hb); clear HB hb; have HB := n1_; clear n1_))
    go_ret
    exact ⟨_, rfl, Kd.R_nil _ _ _ _ _, by repeat (first | (with_reducible first | exact HB.out | apply below_alloc | apply pw_below_drewN | apply below_drew1) | exact HB.out)⟩

-- NOT PRINTED: function 86 (abi_NoEscape)

-- NOT PRINTED: function 74 (strings_Builder_copyCheck)

-- NOT PRINTED: function 87 (bytealg_MakeNoZero)

-- NOT PRINTED: function 75 (strings_Builder_grow)

-- NOT PRINTED: function 53 (strings_Builder_Grow)

-- NOT PRINTED: function 54 (strings_Builder_WriteString)

-- NOT PRINTED: function 55 (strings_Builder_String)

end Go.Proofs.YtjabgjlkemfofaaDoor.Q
