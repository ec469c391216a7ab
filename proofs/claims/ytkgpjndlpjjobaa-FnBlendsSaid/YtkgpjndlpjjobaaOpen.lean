/-
  Arguments that came in, opened: for a type of whole numbers, strings, structs of those and slices of those, what the row reads as data
  is what the contracts of the printed functions ask (Kd.K, Kd.C), with the bounds of its numbers. No condition beyond the readings themselves.
-/
import Derived.Test.YtkgpjndlpjjobaaWWords
import Derived.Deep.Slices
import Derived.Deep.Fields
import Derived.ChangeSame
import Derived.Lib.SmallJoins
namespace Go.Proofs.Ytkgpjndlpjjobaa.Open
open Go.Proofs.YtkgpjndlpjjobaaW.PrintWords
open Go.ChangeShapes Go.WideShapes Go.Deep Go.RowKit Go.Joins
section
variable {H : Type} (enc : TypeId × Value → H) (P : Program) (W : World)
/-- What a value of type t reads as is of kind d, within the bounds wf. -/
def Opens {α : Type} (t : TypeId) (d : Kd α) (wf : α → Prop) : Prop :=
  ∀ (fuel : Nat) (cs : List Value) (x : DataW H × List MemPlace), DataW.trod enc P W 0 (fun _ => true) true fuel t cs = some x → ∃ a : α, d.K W a cs ∧ wf a
variable {enc P W}
theorem opens_int {t : TypeId} {k : IntKind} (ht : P.underlying t = some (.int k)) : Opens enc P W t (Kd.int k) (fun n => (Lit.int k n).wf = true) := by
  intro fuel cs x h
  obtain ⟨n, rfl, _, hw⟩ := DataW.trod_int ht h
  exact ⟨n, rfl, hw⟩
theorem opens_string {t : TypeId} (ht : P.underlying t = some .string) : Opens enc P W t Kd.string (fun s => s.size ≤ maxLen) := by
  intro fuel cs x h
  obtain ⟨s, rfl, _, hw⟩ := DataW.trod_string ht h
  exact ⟨s, rfl, hw⟩
theorem opens_iso {α β : Type} {t : TypeId} {d : Kd α} {wf : α → Prop} (f : β → α) (g : α → β) (hfg : ∀ a, f (g a) = a) (h : Opens enc P W t d wf) : Opens enc P W t (Kd.iso d f) (fun b => wf (f b)) := by
  intro fuel cs x hx
  obtain ⟨a, hK, hw⟩ := h fuel cs x hx
  exact ⟨g a, (show d.K W (f (g a)) cs by rw [hfg]; exact hK), (show wf (f (g a)) by rw [hfg]; exact hw)⟩
theorem take1 {cs : List Value} {n j : Nat} (h : cs.length = n) (hj : j < n) : (cs.drop j).take 1 = [cs[j]'(by omega)] := by
  rw [List.drop_eq_getElem_cons (by omega)]
  rfl
theorem opens_struct2 {α β : Type} {t : TypeId} {f0 f1 : Field} {d0 : Kd α} {d1 : Kd β} {wf0 : α → Prop} {wf1 : β → Prop} (hs : P.underlying t = some (.struct #[f0, f1])) (hone : oneCellFields P #[f0, f1] = true) (hC : P.cellsOf t = 2)
    (o0 : Opens enc P W f0.type d0 wf0) (o1 : Opens enc P W f1.type d1 wf1) : Opens enc P W t (Kd.pair d0 d1) (fun x => wf0 x.1 ∧ wf1 x.2) := by
  intro fuel cs x h
  obtain ⟨xs, n, _, _, hl, hlen, hf⟩ := DataW.trod_struct hs h
  rw [hC] at hl
  match cs, hl with
  | [c0, c1], _ =>
    obtain ⟨p0, k0⟩ := hone_of hone 0 f0 rfl
    obtain ⟨p1, k1⟩ := hone_of hone 1 f1 rfl
    have e0 := hf 0 f0 rfl
    have e1 := hf 1 f1 rfl
    match xs, hlen with
    | [y0, y1], _ =>
      simp [p0, k0] at e0
      simp [p1, k1] at e1
      obtain ⟨a0, hK0, hw0⟩ := o0 _ _ _ e0
      obtain ⟨a1, hK1, hw1⟩ := o1 _ _ _ e1
      exact ⟨(a0, a1), ⟨[c0], [c1], rfl, hK0, hK1⟩, hw0, hw1⟩
theorem opens_struct3 {α β γ : Type} {t : TypeId} {f0 f1 f2 : Field} {d0 : Kd α} {d1 : Kd β} {d2 : Kd γ} {wf0 : α → Prop} {wf1 : β → Prop} {wf2 : γ → Prop} (hs : P.underlying t = some (.struct #[f0, f1, f2])) (hone : oneCellFields P #[f0, f1, f2] = true) (hC : P.cellsOf t = 3)
    (o0 : Opens enc P W f0.type d0 wf0) (o1 : Opens enc P W f1.type d1 wf1) (o2 : Opens enc P W f2.type d2 wf2) : Opens enc P W t (Kd.pair d0 (Kd.pair d1 d2)) (fun x => wf0 x.1 ∧ wf1 x.2.1 ∧ wf2 x.2.2) := by
  intro fuel cs x h
  obtain ⟨xs, n, _, _, hl, hlen, hf⟩ := DataW.trod_struct hs h
  rw [hC] at hl
  match cs, hl with
  | [c0, c1, c2], _ =>
    obtain ⟨p0, k0⟩ := hone_of hone 0 f0 rfl
    obtain ⟨p1, k1⟩ := hone_of hone 1 f1 rfl
    obtain ⟨p2, k2⟩ := hone_of hone 2 f2 rfl
    have e0 := hf 0 f0 rfl
    have e1 := hf 1 f1 rfl
    have e2 := hf 2 f2 rfl
    match xs, hlen with
    | [y0, y1, y2], _ =>
      simp [p0, k0] at e0
      simp [p1, k1] at e1
      simp [p2, k2] at e2
      obtain ⟨a0, hK0, hw0⟩ := o0 _ _ _ e0
      obtain ⟨a1, hK1, hw1⟩ := o1 _ _ _ e1
      obtain ⟨a2, hK2, hw2⟩ := o2 _ _ _ e2
      exact ⟨(a0, a1, a2), ⟨[c0], [c1, c2], rfl, hK0, [c1], [c2], rfl, hK1, hK2⟩, hw0, hw1, hw2⟩
theorem opens_slice {α : Type} {t e : TypeId} (e' : Nat) {d : Kd α} {wf : α → Prop} (ht : P.underlying t = some (.slice e)) (hC : P.cellsOf e = d.sz) (o : Opens enc P W e d wf) :
    Opens enc P W t (Kd.slice e' d) (fun xs => xs.length ≤ maxLen ∧ ∀ x ∈ xs, wf x) := by
  intro fuel cs x h
  rcases open_slice ht h with ⟨rfl, _⟩ | ⟨a, len, cap, m, n, D, Pl, rfl, _, hl, hm, hmm, _, hx⟩
  · exact ⟨[], ⟨none, 0, rfl, Nat.le_refl _, rfl, Nat.zero_le _, fun h => absurd h (Nat.lt_irrefl _)⟩, Nat.zero_le _, fun x hx => by simp at hx⟩
  · simp only [if_true] at hmm
    subst hmm
    have each : ∀ i, i < len → ∃ y : α × List Value, W.cells? 0 (a.add (i * P.cellsOf e)) (P.cellsOf e) = some y.2 ∧ d.K W y.1 y.2 ∧ wf y.1 := by
      intro i hi
      obtain ⟨cs', h1, h2⟩ := hx i (by omega)
      obtain ⟨b, hK, hw⟩ := o _ _ _ h2
      exact ⟨(b, cs'), h1, hK, hw⟩
    have each' : ∀ i : Fin len, ∃ y : α × List Value, W.cells? 0 (a.add (i.val * P.cellsOf e)) (P.cellsOf e) = some y.2 ∧ d.K W y.1 y.2 ∧ wf y.1 := fun i => each i.val i.isLt
    let y : Fin len → α × List Value := fun i => Classical.choose (each' i)
    have hy : ∀ i : Fin len, W.cells? 0 (a.add (i.val * P.cellsOf e)) (P.cellsOf e) = some (y i).2 ∧ d.K W (y i).1 (y i).2 ∧ wf (y i).1 := fun i => Classical.choose_spec (each' i)
    have hlen : (List.ofFn fun i => (y i).1).length = len := List.length_ofFn
    refine ⟨List.ofFn fun i => (y i).1, ⟨some a, m, by rw [hlen], by rw [hlen]; exact hl, rfl, by rw [hlen]; unfold maxLen at hm; omega, fun _ => ⟨a, rfl, fun j p hp => ?_⟩⟩, by rw [hlen]; exact Nat.le_trans hl hm, fun x hx => ?_⟩
    · obtain ⟨hj, rfl⟩ := List.getElem?_eq_some_iff.1 hp
      have hj2 : j < len := by rw [hlen] at hj; exact hj
      obtain ⟨h1, h2, _⟩ := hy ⟨j, hj2⟩
      obtain ⟨_, hcl, hat⟩ := World.cells?_some h1
      refine ⟨(y ⟨j, hj2⟩).2, by rw [hcl, hC], by rw [List.getElem_ofFn]; exact h2, fun i u hu => ?_⟩
      obtain ⟨hi, hu2⟩ := List.getElem?_eq_some_iff.1 hu
      have hq := hat (i := i) (by omega)
      rw [← Go.Deep.add_add, ← hC, hq, hu]
    · obtain ⟨i, rfl⟩ := List.mem_ofFn.1 hx
      exact (hy i).2.2
/-- A slice parameter: its value written out, its row read, its bounds. -/
theorem open_row {α : Type} {t e e' : TypeId} {d : Kd α} {wf : List α → Prop} {r : Reach} {b0 : Nat} {v : Value} {dd : DataW H} {p : List MemPlace} (ht : P.underlying t = some (.slice e)) (hv : Value.okWide P W r b0 t v)
    (o : Opens enc P W t (Kd.slice e' d) wf) (h : DataW.Trod enc P W 0 (fun _ => true) true t v dd p) :
    ∃ (A : Option Addr) (c : Nat) (l : List α), v = .slice A l.length c ∧ d.C W A l.length l ∧ l.length ≤ c ∧ wf l := by
  obtain ⟨A, n, c, rfl⟩ := okWide_slice ht hv
  obtain ⟨fuel, hf⟩ := h
  obtain ⟨l, ⟨A', c', hcs, hlc, hC⟩, hw⟩ := o _ _ _ hf
  simp [Value.cells] at hcs
  obtain ⟨rfl, rfl, rfl⟩ := hcs
  exact ⟨A, c, l, rfl, hC, hlc, hw⟩
end
end Go.Proofs.Ytkgpjndlpjjobaa.Open
