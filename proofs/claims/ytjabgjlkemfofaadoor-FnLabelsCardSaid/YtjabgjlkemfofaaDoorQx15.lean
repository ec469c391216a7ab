/- The functions that the seat's statements reach, as plain Lean functions, and that the program's calls answer what they say; no condition beyond the values read. Written by a program of this session's over the kit's print. -/
import Derived.Shelf.SlSortCmp.SmallK
import Derived.Test.YtjabgjlkemfofaaDoorQx0
import Derived.Test.YtjabgjlkemfofaaDoorQx2
import Derived.Test.YtjabgjlkemfofaaDoorQx10
import Derived.Test.YtjabgjlkemfofaaDoorQx11
import Derived.Test.YtjabgjlkemfofaaDoorQx12
import Derived.Test.YtjabgjlkemfofaaDoorQx14
namespace Go.Proofs.YtjabgjlkemfofaaDoor.Q
open Go.RowKit Go.Proofs.YtjabgjlkemfofaaDoorW.PrintWords Go.Proofs.YtjabgjlkemfofaaDoorW.PrintLast Go.Proofs.YtjabgjlkemfofaaDoorW.PrintMore
attribute [local go_sem] max2_int min2_int max_two min_two max_three min_three max_four min_four   -- for this text's walks alone
set_option linter.unusedVariables false
set_option linter.unusedSimpArgs false

/-! ### impl_Part_34: function 34, at impl.SortedParts' order -/
open Go.Shelf in
def insRen : Go.Shelf.Ren := ⟨fun | 20 => 63 | n => n, fun | 22 => 37 | 24 => 26 | 25 => 54 | n => n, fun n => n⟩
open Go.Shelf in
theorem insLay : SlLaysF0.n20 Tryd.prog insRen := {
  mixed := by kernel_rfl
  f20 := ⟨Tryd.f63.name, by decide, Tryd.func63.trans (by kernel_rfl)⟩
  t0 := Tryd.underlying0
  a0 := Tryd.isAgg0
  z0 := Tryd.sizeOf0
  v0 := Tryd.zeroValue0
  t3 := Tryd.underlying3
  a3 := Tryd.isAgg3
  z3 := Tryd.sizeOf3
  v3 := Tryd.zeroValue3
  t4 := Tryd.underlying4
  a4 := Tryd.isAgg4
  z4 := Tryd.sizeOf4
  v4 := Tryd.zeroValue4
  t22 := Tryd.underlying37
  a22 := Tryd.isAgg37
  z22 := Tryd.sizeOf37
  v22 := Tryd.zeroValue37
  t25 := Tryd.underlying54
  a25 := Tryd.isAgg54
  z25 := Tryd.sizeOf54
  v25 := Tryd.zeroValue54 }
instance : Inhabited S26 := ⟨z26⟩
def encP (x : S26) : List Value := [.string x.f0, .int .i64 x.f1]
/-- The order of the parts: what the closure answers. -/
def cmpP (x y : S26) : Int := if wrap64 (y.f1 - x.f1) = 0 then Lib.compareBytes x.f0.data.toList y.f0.data.toList else wrap64 (y.f1 - x.f1)
def sortP (l : List S26) : List S26 := (Go.Sort.insertionSort (ltOf cmpP) l.toArray 0 l.length).toList
theorem cmpP_ok (x y : S26) : impl_SortedParts_1.f 5 x.f0 x.f1 y.f0 y.f1 = some (cmpP x y) := by
  unfold impl_SortedParts_1.f strings_Compare.f cmpP
  simp only [Option.bind_some]
  generalize wrap64 (y.f1 - x.f1) = a
  generalize Lib.compareBytes x.f0.data.toList y.f0.data.toList = b
  have w0 : wrap64 (0 + 1) = 1 := by unfold wrap64; omega
  have w1 : wrap64 (1 + 1) = 2 := by unfold wrap64; omega
  have e0 : rd ([a, b] : List Int) 0 = a := rfl
  have e1 : rd ([a, b] : List Int) 1 = b := rfl
  have l2 : (([a, b] : List Int).length : Int) = 2 := rfl
  unfold cmp_Or_int.f
  rw [l2, cmp_Or_int.l0, if_pos (by decide), if_pos (by decide), l2, if_pos (by decide), e0, w0]
  by_cases h : a = 0
  · rw [if_pos h, if_pos h, cmp_Or_int.l0, if_pos (by decide), if_pos (by decide), l2, if_pos (by decide), e1, w1]
    by_cases h2 : b = 0
    · rw [if_pos h2, cmp_Or_int.l0, if_neg (by decide), Option.bind_some, h2]
    · rw [if_neg h2, Option.bind_some]
  · rw [if_neg h, if_neg h, Option.bind_some]
theorem cmpP_lays (blk off size : Nat) (w : World) : CmpLays Tryd.prog 35 #[] encP 2 cmpP blk off size w := by
  intro m os dk _ x y
  refine (impl_SortedParts_1.callsD 5 x.f0 x.f1 y.f0 y.f1 (cmpP x y) _ (cmpP_ok x y)).mono ?_
  rintro e w' ⟨rfl, hb, hd⟩
  exact ⟨rfl, grows_of hb hd⟩
theorem mapBlock_at (w : World) (g : Nat) (f : Array Value → Array Value) (c : Array Value) (e : TypeId) (fr : Nat × Nat) (h : w.heap[g]? = some (.cells c e fr)) : (Go.Sort.mapBlock w g f).heap[g]? = some (.cells (f c) e fr) := by
  unfold Go.Sort.mapBlock
  rw [Array.getElem?_modify, if_pos rfl, h]
  rfl
theorem mapBlock_ne (w : World) (g k : Nat) (f : Array Value → Array Value) (h : g ≠ k) : (Go.Sort.mapBlock w g f).heap[k]? = w.heap[k]? := by
  unfold Go.Sort.mapBlock
  rw [Array.getElem?_modify, if_neg h]
/-- A row of parts, as the library's contract has it. -/
theorem holdsP {w : World} {base : Nat} {ok : Nat → Prop} {g n cap : Nat} {l : List S26} (h : Kd.R k26 26 w base ok (.slice (some ⟨g, 0, none⟩) n cap) l) : Go.Sort.HoldsK encP 2 w g 0 l.toArray := by
  have hn := (Kd.R_reads' h).1
  intro t ht
  rw [Go.Sort.size_flatK, List.size_toArray] at ht
  rw [Go.Sort.get_flatK _ _ _ _ (by rw [List.size_toArray]; exact ht)]
  have hi : t / 2 < l.length := by omega
  obtain ⟨c, hc, hM, hcc, hf⟩ := Kd.R_elem h z26 ((t / 2 : Nat) : Int) (by omega) (by omega)
  obtain rfl := k26_openM hM
  have e : l.toArray[t / 2]! = l.getD ((t / 2 : Nat) : Int).toNat z26 := by
    rw [Int.toNat_natCast]
    simp [hi]
  rw [e]
  have ht2 : ((t / 2 : Nat) : Int).toNat * 2 + t % 2 = t := by rw [Int.toNat_natCast]; omega
  have h2 : t % 2 = 0 ∨ t % 2 = 1 := by omega
  refine ⟨?_, ?_⟩
  · rcases h2 with h2 | h2
    · have := hcc 0 _ rfl
      rw [show (k26).sz = 2 from rfl] at this
      rw [h2, Nat.add_zero] at ht2
      rw [Nat.add_zero, ht2] at this
      rw [h2, Nat.zero_add]
      exact this
    · have := hcc 1 _ rfl
      rw [show (k26).sz = 2 from rfl] at this
      rw [h2] at ht2
      rw [ht2] at this
      rw [h2, Nat.zero_add]
      exact this
  · have := hf (t % 2)
    rw [show (k26).sz = 2 from rfl, ht2] at this
    rw [Nat.zero_add]
    exact this
theorem grownK (w : World) (g m : Nat) (d : Array S26) (os : Array Obj) : w.grownBy (sortWorldK encP 2 w g 0 m d os) (some g) := by
  have hs : (Go.Sort.mapBlock (Go.Sort.ahead w m) g (Go.Sort.putCells id 0 (Go.Sort.flatK encP 2 d))).heap.size = w.heap.size := by
    show (w.heap.modify _ _).size = _
    rw [Array.size_modify]
  refine ⟨rfl, rfl, rfl, ?_, fun k hk hne => ?_⟩
  · show w.heap.size ≤ ((Go.Sort.mapBlock (Go.Sort.ahead w m) g _).heap ++ os).size
    rw [Array.size_append]
    exact Nat.le_trans (Nat.le_of_eq hs.symm) (Nat.le_add_right _ _)
  · show ((Go.Sort.mapBlock (Go.Sort.ahead w m) g (Go.Sort.putCells id 0 (Go.Sort.flatK encP 2 d))).heap ++ os)[k]? = _
    rw [Array.getElem?_append_left (by rw [hs]; exact hk)]
    exact mapBlock_ne (Go.Sort.ahead w m) g k _ (fun e => hne (by rw [e]))
theorem rowK {w : World} {base : Nat} {ok : Nat → Prop} {g n cap : Nat} {l : List S26} (h : Kd.R k26 26 w base ok (.slice (some ⟨g, 0, none⟩) n cap) l) (m : Nat) (d : Array S26) (hd : d.size = l.length) (os : Array Obj) : Kd.R k26 26 (sortWorldK encP 2 w g 0 m d os) base ok (.slice (some ⟨g, 0, none⟩) n cap) d.toList := by
  have hn := (Kd.R_reads' h).1
  obtain ⟨hok, inner, ⟨hil, ho⟩, hrep⟩ := h
  rcases ho with ⟨hv, _⟩ | ⟨g', cap', cur, hv, hbg, hh, hnc, hcm, hcs, htk⟩
  · cases hv
  · cases hv
    have hgl : g < w.heap.size := by
      rcases Nat.lt_or_ge g w.heap.size with h1 | h1
      · exact h1
      · rw [Array.getElem?_eq_none h1] at hh; cases hh
    have hs : (Go.Sort.mapBlock (Go.Sort.ahead w m) g (Go.Sort.putCells id 0 (Go.Sort.flatK encP 2 d))).heap.size = w.heap.size := by
      show (w.heap.modify _ _).size = _
      rw [Array.size_modify]
    have hh' : (sortWorldK encP 2 w g 0 m d os).heap[g]? = some (.cells (Go.Sort.putCells id 0 (Go.Sort.flatK encP 2 d) cur) 26 (0, 0)) := by
      show ((Go.Sort.mapBlock (Go.Sort.ahead w m) g (Go.Sort.putCells id 0 (Go.Sort.flatK encP 2 d))).heap ++ os)[g]? = _
      rw [Array.getElem?_append_left (by rw [hs]; exact hgl)]
      exact mapBlock_at (Go.Sort.ahead w m) g _ cur 26 (0, 0) hh
    have hF : (Go.Sort.flatK encP 2 d).size = d.size * 2 := Go.Sort.size_flatK _ _ _
    refine ⟨hok, (Go.Sort.flatK encP 2 d).toList, ⟨?_, .inr ⟨g, cap, Go.Sort.putCells id 0 (Go.Sort.flatK encP 2 d) cur, ?_, hbg, hh', ?_, hcm, ?_, ?_⟩⟩, ?_, ?_⟩
    · show (Go.Sort.flatK encP 2 d).toList.length = d.toList.length * 2
      rw [Array.length_toList, Array.length_toList, hF]
    · show Value.slice (some ⟨g, 0, none⟩) l.length cap = Value.slice (some ⟨g, 0, none⟩) d.toList.length cap
      rw [show d.toList.length = l.length from by rw [← hd]; exact Array.length_toList]
    · rw [Array.length_toList, hd]; exact hnc
    · rw [Go.Sort.putCells, Array.size_mapIdx]; exact hcs
    · have hle : d.size * 2 ≤ cur.size := by
        rw [hcs, hd]
        exact Nat.mul_le_mul_right _ hnc
      apply List.ext_getElem?
      intro t
      by_cases ht : t < d.size * 2
      · rw [List.getElem?_take_of_lt (by rw [Array.length_toList]; exact ht), Array.getElem?_toList, Array.getElem?_toList, Go.Sort.putCells, Array.getElem?_mapIdx, Array.getElem?_eq_getElem (show t < cur.size by omega), Array.getElem?_eq_getElem (show t < (Go.Sort.flatK encP 2 d).size by omega), Option.map_some, if_pos ⟨Nat.zero_le _, by omega⟩, Nat.sub_zero, getElem!_pos _ t (by omega)]
        rfl
      · rw [List.getElem?_eq_none (by rw [List.length_take, Array.length_toList]; have : t ≥ d.size * 2 := by omega
                                      exact Nat.le_trans (Nat.min_le_left _ _) this), List.getElem?_eq_none (by rw [Array.length_toList]; omega)]
    · show (Go.Sort.flatK encP 2 d).toList.length = d.toList.length * 2
      rw [Array.length_toList, Array.length_toList, hF]
    · intro j p hj
      rw [Array.getElem?_toList] at hj
      obtain ⟨hjl, hp⟩ := Array.getElem?_eq_some_iff.1 hj
      have e : ((Go.Sort.flatK encP 2 d).toList.drop (j * 2)).take 2 = encP p := by
        have hg : ∀ c, c < 2 → (Go.Sort.flatK encP 2 d).toList[j * 2 + c]? = some (encP p)[c]! := by
          intro c hc
          rw [Array.getElem?_toList, Array.getElem?_eq_getElem (by omega), ← getElem!_pos _ (j * 2 + c) (by omega), Go.Sort.get_flatK _ _ _ _ (by omega)]
          have e1 : (j * 2 + c) / 2 = j := by omega
          have e2 : (j * 2 + c) % 2 = c := by omega
          rw [e1, e2, getElem!_pos d j hjl, hp]
        apply List.ext_getElem?
        intro c
        by_cases hc : c < 2
        · rw [List.getElem?_take_of_lt hc, List.getElem?_drop, hg c hc]
          have : c = 0 ∨ c = 1 := by omega
          rcases this with rfl | rfl <;> rfl
        · rw [List.getElem?_eq_none (by rw [List.length_take]; omega), List.getElem?_eq_none (by show 2 ≤ c; omega)]
      rw [show (k26).sz = 2 from rfl, e]
      exact k26_mkM _ _ _ p
theorem insInner_size (lt : S26 → S26 → Bool) (a : Nat) : ∀ (j : Nat) (d : Array S26), (Go.Sort.insInner lt a j d).size = d.size
  | 0, _ => rfl
  | j + 1, d => by
    unfold Go.Sort.insInner
    split
    · rw [insInner_size lt a j]
      unfold Go.Sort.swp
      rw [Array.size_setIfInBounds, Array.size_setIfInBounds]
    · rfl
theorem insOuter_size (lt : S26 → S26 → Bool) (a b : Nat) : ∀ (m i : Nat) (d : Array S26), b - i ≤ m → (Go.Sort.insOuter lt a b i d).size = d.size := by
  intro m
  induction m with
  | zero =>
    intro i d h
    unfold Go.Sort.insOuter
    rw [if_neg (by omega)]
  | succ m ih =>
    intro i d h
    unfold Go.Sort.insOuter
    split
    · rw [ih (i + 1) _ (by omega), insInner_size]
    · rfl
theorem sortP_length (l : List S26) : (sortP l).length = l.length := by
  unfold sortP Go.Sort.insertionSort
  rw [Array.length_toList, insOuter_size _ _ _ l.length _ _ (by omega), List.size_toArray]
def impl_Part_34.f (k : Nat) (l0 : List S26) : Option (List S26) := (bits_Len.f k (l0.length : Int)).bind fun _ => (if 0 < l0.length then (if l0.length ≤ 12 then (some (sortP l0)) else (none)) else (none))
set_option maxHeartbeats 8000000 in
set_option maxRecDepth 100000 in
theorem impl_Part_34.calls (k : Nat) (u_ : Value) (l0 r : List S26) (base : Nat) (ok : Nat → Prop) (w : World) (ho : Kd.R k26 26 w base ok u_ l0) (h : impl_Part_34.f k l0 = some r) :
    Calls Tryd.prog 34 #[u_, .func (.func 35) #[] #[]] w fun e w' => e = .returned (.tuple #[]) ∧ Kd.R k26 26 w' base ok u_ r ∧ w.grownBy w' u_.ownBlock := by
  obtain ⟨b, hb, h⟩ := Option.bind_eq_some_iff.mp h
  by_cases h0 : 0 < l0.length
  · rw [if_pos h0] at h
    by_cases h12 : l0.length ≤ 12
    · rw [if_pos h12] at h
      obtain rfl := Option.some.inj h
      obtain ⟨g, cap, rfl, hbg, hgl, _⟩ := Kd.R_form ho h0
      have hi := fun nd => AnyQ.insertionSortCmpFunc insLay 2 Tryd.isAgg26 Tryd.sizeOf26 encP (fun _ => rfl) (fun x v hv => by
        rcases List.mem_cons.1 hv with rfl | hv
        · rfl
        · rcases List.mem_cons.1 hv with rfl | hv
          · rfl
          · cases hv) cmpP 35 #[] g 0 cap 0 l0.toArray.size l0.toArray (w.drewN nd) (enters_by Tryd.func35 (by kernel_rfl) rfl) (cmpP_lays _ _ _ _) (holdsP (Kd.R_drewN ho nd)) hgl (Nat.zero_le _) (Nat.le_refl _) (by rw [List.size_toArray]; omega)
      simp only [List.size_toArray] at hi
      have HI := Aside0.mk hi
      have HO := Aside0.mk ho
      have HBL := Aside0.mk hb
      have h12b : decide ((l0.length : Int) ≤ 12) = true := decide_eq_true (by omega)
      have hw0 : wrap64 ((l0.length : Int) - 0) = (l0.length : Int) := by unfold wrap64; omega
      have h0n : (0 : Int) ≤ (l0.length : Int) := by omega
      have hn9 : (l0.length : Int) ≤ 12 := by omega
      clear hi ho hb h0 h12 h
      have HP : ∀ (lim : Int) (nd : Nat), Calls Tryd.prog 50 #[.slice (some ⟨g, 0, none⟩) l0.length cap, .int .i64 0, .int .i64 (l0.length : Int), .int .i64 lim, .func (.func 35) #[] #[]] (w.drewN nd) fun e w' => e = .returned (.tuple #[]) ∧ ∃ n os, w' = sortWorldK encP 2 (w.drewN nd) g 0 n (Go.Sort.insertionSort (ltOf cmpP) l0.toArray 0 l0.length) os := by
        intro lim nd
        go_enter Tryd.func50, Tryd.ntmps50
        go_wp2
        refine wp_loop_rounds 1 ?_
        rw [rounds_succ]
        go_wp2_with (go_at_call 63; refine (HI.out _).mono ?_; rintro e w' ⟨rfl, n, os, rfl⟩)
        (try simp only [Exit.inBlock, Exit.then]); refine bodyPost_ret (results_none rfl _ _ _) rfl ?_
        exact ⟨rfl, n, os, rfl⟩
      clear HI
      have HL := Aside0.mk hw0
      clear hw0
      go_enter Tryd.func34, Tryd.ntmps34
      go_wp2_with (first | (go_at_call 51; refine (bits_Len.calls k _ _ _ HBL.out).mono ?_; rintro e w' ⟨rfl, ⟨nd, rfl⟩⟩) | (go_at_call 50; refine (HP _ _).mono ?_; rintro e w' ⟨rfl, n, os, rfl⟩))
      go_end0
      refine ⟨rfl, ?_, ?_⟩
      · have hR := rowK (Kd.R_drewN HO.out nd) n (Go.Sort.insertionSort (ltOf cmpP) l0.toArray 0 l0.length) (by have := sortP_length l0; unfold sortP at this; rwa [Array.length_toList] at this) os
        exact hR
      · have := grownK (w.drewN nd) g n (Go.Sort.insertionSort (ltOf cmpP) l0.toArray 0 l0.length) os
        exact ⟨this.os, this.tape, this.output, this.size, this.block⟩
    · rw [if_neg h12] at h
      exact absurd h (by simp)
  · rw [if_neg h0] at h
    exact absurd h (by simp)

end Go.Proofs.YtjabgjlkemfofaaDoor.Q
