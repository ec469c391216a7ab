/-
  No cell of these rows narrows 'for every input' (looked for: loops, veiled, ifaces, maps, wideKeys, modest, calm, conditions, laid).
  DERIVED. THE GIVEN ROWS OF THIS SEAT. 6 by the template 'for every input the law returns true; each argument reads behind the call as it read before'; 0 by the template 'total and deterministic' (their statements: YtnffhpgchfbmhaaTotals.lean).
  GIVEN WITH THE SEED: the statements are not yours to turn. If you find one false, say at which input.
  Laid BY PROGRAM, IN A SANDBOX (cutbox-rows.mjs): the forced cells as the released guide's own fill.sh prints them over the translation e2263c52fee67d20… (all of the seat's roots in one cut). By AI agents, Wed Nov 11 2026. No macro, syntax, notation, axiom, sorry.
-/
import Derived.Test.YtnffhpgchfbmhaaChecked
import GoSem.Claim
import GoSem.ClaimJoined
import GoSem.ClaimMapViews
import Derived.JoinedTies
import Derived.KernelRfl
namespace Go.Proofs.Ytnffhpgchfbmhaa
/- THE CELL 'sum', in the pinned program and in every row, IS THE sha256 OF THE DUMP (.gsa) THAT YtnffhpgchfbmhaaProg.lean LOADS. Nothing in Lean hashes anything: it is a label: what it is worth is what the hold of that sum in a sandbox is worth. -/
noncomputable def Try.pinned : Pinned := { name := "ytnffhpgchfbmhaa", sum := "e2263c52fee67d20b9cd9abaaea21f0e43da417b2a38ceb76ae543dabfdda3c7", checked := Try.checked }
namespace Rows
def none {H : Type} : Left H := { results := [], args := [] }

/-- 'laws.FnExactSaltAfter': WHATEVER THE INPUT: true; the input reads as it did. -/
def fnExactSaltAfterSpec : ChangeSpec := { name := "fnExactSaltAfter", fn := fun _ => fun
  | [d1, d2] => { results := [.lit (.bool true)], args := [d1, d2] }
  | _ => none }
def fnExactSaltAfterRow : OpenClaim := { program := "ytnffhpgchfbmhaa", sum := "e2263c52fee67d20b9cd9abaaea21f0e43da417b2a38ceb76ae543dabfdda3c7", func := "loop.example/g03310/laws.FnExactSaltAfter", spec := "fnExactSaltAfter", apart := false }
def FnExactSaltAfterSaid : Prop := fnExactSaltAfterRow.holds Try.pinned (OpenSpec.ofChange fnExactSaltAfterSpec)

/-- ITS FALSE NEIGHBOUR: 'it returns false'. Refute it at one input. -/
def fnExactSaltAfterWrong : ChangeSpec := { name := "fnExactSaltAfter", fn := fun _ => fun
  | [d1, d2] => { results := [.lit (.bool false)], args := [d1, d2] }
  | _ => none }
def FnExactSaltAfterWrongFalsely : Prop := fnExactSaltAfterRow.holds Try.pinned (OpenSpec.ofChange fnExactSaltAfterWrong)

/-- 'laws.FnExactMissingPart': WHATEVER THE INPUT: true; the input reads as it did. -/
def fnExactMissingPartSpec : ChangeSpec := { name := "fnExactMissingPart", fn := fun _ => fun
  | [d1, d2, d3] => { results := [.lit (.bool true)], args := [d1, d2, d3] }
  | _ => none }
def fnExactMissingPartRow : OpenClaim := { program := "ytnffhpgchfbmhaa", sum := "e2263c52fee67d20b9cd9abaaea21f0e43da417b2a38ceb76ae543dabfdda3c7", func := "loop.example/g03310/laws.FnExactMissingPart", spec := "fnExactMissingPart", apart := false }
def FnExactMissingPartSaid : Prop := fnExactMissingPartRow.holds Try.pinned (OpenSpec.ofChange fnExactMissingPartSpec)

/-- ITS FALSE NEIGHBOUR: 'it returns false'. Refute it at one input. -/
def fnExactMissingPartWrong : ChangeSpec := { name := "fnExactMissingPart", fn := fun _ => fun
  | [d1, d2, d3] => { results := [.lit (.bool false)], args := [d1, d2, d3] }
  | _ => none }
def FnExactMissingPartWrongFalsely : Prop := fnExactMissingPartRow.holds Try.pinned (OpenSpec.ofChange fnExactMissingPartWrong)

/-- 'laws.FnExactTwiceIn': WHATEVER THE INPUT: true; the input reads as it did. -/
def fnExactTwiceInSpec : ChangeSpec := { name := "fnExactTwiceIn", fn := fun _ => fun
  | [d1, d2, d3] => { results := [.lit (.bool true)], args := [d1, d2, d3] }
  | _ => none }
def fnExactTwiceInRow : OpenClaim := { program := "ytnffhpgchfbmhaa", sum := "e2263c52fee67d20b9cd9abaaea21f0e43da417b2a38ceb76ae543dabfdda3c7", func := "loop.example/g03310/laws.FnExactTwiceIn", spec := "fnExactTwiceIn", apart := false }
def FnExactTwiceInSaid : Prop := fnExactTwiceInRow.holds Try.pinned (OpenSpec.ofChange fnExactTwiceInSpec)

/-- ITS FALSE NEIGHBOUR: 'it returns false'. Refute it at one input. -/
def fnExactTwiceInWrong : ChangeSpec := { name := "fnExactTwiceIn", fn := fun _ => fun
  | [d1, d2, d3] => { results := [.lit (.bool false)], args := [d1, d2, d3] }
  | _ => none }
def FnExactTwiceInWrongFalsely : Prop := fnExactTwiceInRow.holds Try.pinned (OpenSpec.ofChange fnExactTwiceInWrong)

/-- 'laws.FnExactFlourOf': WHATEVER THE INPUT: true; the input reads as it did. -/
def fnExactFlourOfSpec : ChangeSpec := { name := "fnExactFlourOf", fn := fun _ => fun
  | [d1, d2] => { results := [.lit (.bool true)], args := [d1, d2] }
  | _ => none }
def fnExactFlourOfRow : OpenClaim := { program := "ytnffhpgchfbmhaa", sum := "e2263c52fee67d20b9cd9abaaea21f0e43da417b2a38ceb76ae543dabfdda3c7", func := "loop.example/g03310/laws.FnExactFlourOf", spec := "fnExactFlourOf", apart := false }
def FnExactFlourOfSaid : Prop := fnExactFlourOfRow.holds Try.pinned (OpenSpec.ofChange fnExactFlourOfSpec)

/-- ITS FALSE NEIGHBOUR: 'it returns false'. Refute it at one input. -/
def fnExactFlourOfWrong : ChangeSpec := { name := "fnExactFlourOf", fn := fun _ => fun
  | [d1, d2] => { results := [.lit (.bool false)], args := [d1, d2] }
  | _ => none }
def FnExactFlourOfWrongFalsely : Prop := fnExactFlourOfRow.holds Try.pinned (OpenSpec.ofChange fnExactFlourOfWrong)

/-- 'laws.FnExactCanTell': WHATEVER THE INPUT: true; the input reads as it did. -/
def fnExactCanTellSpec : ChangeSpec := { name := "fnExactCanTell", fn := fun _ => fun
  | [d1, d2] => { results := [.lit (.bool true)], args := [d1, d2] }
  | _ => none }
def fnExactCanTellRow : OpenClaim := { program := "ytnffhpgchfbmhaa", sum := "e2263c52fee67d20b9cd9abaaea21f0e43da417b2a38ceb76ae543dabfdda3c7", func := "loop.example/g03310/laws.FnExactCanTell", spec := "fnExactCanTell", recurses := true, apart := false }
def FnExactCanTellSaid : Prop := fnExactCanTellRow.holds Try.pinned (OpenSpec.ofChange fnExactCanTellSpec)

/-- ITS FALSE NEIGHBOUR: 'it returns false'. Refute it at one input. -/
def fnExactCanTellWrong : ChangeSpec := { name := "fnExactCanTell", fn := fun _ => fun
  | [d1, d2] => { results := [.lit (.bool false)], args := [d1, d2] }
  | _ => none }
def FnExactCanTellWrongFalsely : Prop := fnExactCanTellRow.holds Try.pinned (OpenSpec.ofChange fnExactCanTellWrong)

/-- 'laws.FnWeighings': WHATEVER THE INPUT: true; the input reads as it did. -/
def fnWeighingsSpec : ChangeSpec := { name := "fnWeighings", fn := fun _ => fun
  | [d] => { results := [.lit (.bool true)], args := [d] }
  | _ => none }
def fnWeighingsRow : OpenClaim := { program := "ytnffhpgchfbmhaa", sum := "e2263c52fee67d20b9cd9abaaea21f0e43da417b2a38ceb76ae543dabfdda3c7", func := "loop.example/g03310/laws.FnWeighings", spec := "fnWeighings", recurses := true, apart := false }
def FnWeighingsSaid : Prop := fnWeighingsRow.holds Try.pinned (OpenSpec.ofChange fnWeighingsSpec)

/-- ITS FALSE NEIGHBOUR: 'it returns false'. Refute it at one input. -/
def fnWeighingsWrong : ChangeSpec := { name := "fnWeighings", fn := fun _ => fun
  | [d] => { results := [.lit (.bool false)], args := [d] }
  | _ => none }
def FnWeighingsWrongFalsely : Prop := fnWeighingsRow.holds Try.pinned (OpenSpec.ofChange fnWeighingsWrong)

/- THE SECOND FORM. 'bulk': how many values and letters a reading holds, each counted each time it is reached (what is shared counts as often as it is met; a slice's spare places count too). A statement '..UptoSaid' is the law's where the arguments, and the package variables that the reading takes, are together of bulk at most 1048576: NARROWER than '..Said'. Prove '..Said' where nothing that the law and all that it calls make is longer than what came in: it says more and counts as full. Else prove '..UptoSaid'. A law counts once. -/
mutual
def uptoBulk {H : Type} : DataW H → Nat
  | .lit (.string bytes) => bytes.length + 1
  | .lit _ => 1
  | .nil => 1
  | .ptr d => uptoBulk d + 1
  | .slice elems spare => uptoBulkAll elems + uptoBulkAll spare + 1
  | .agg parts => uptoBulkAll parts + 1
  | .iface _ d => uptoBulk d + 1
  | .map entries => uptoBulkEntries entries + 1
  | .held _ => 1
def uptoBulkAll {H : Type} : List (DataW H) → Nat
  | [] => 0
  | d :: r => uptoBulk d + uptoBulkAll r
def uptoBulkEntries {H : Type} : List (Lit × DataW H) → Nat
  | [] => 0
  | x :: r => uptoBulkEntry x + uptoBulkEntries r
def uptoBulkEntry {H : Type} : Lit × DataW H → Nat
  | (.string bytes, d) => bytes.length + uptoBulk d + 1
  | (_, d) => uptoBulk d + 1
 end
def uptoSmall : (H : Type) → List (DataW H) → Bool := fun _ ds => decide (uptoBulkAll ds ≤ 1048576)
def OpenSpec.upto (s : _root_.Go.ChangeSpec) : _root_.Go.OpenSpec := { _root_.Go.OpenSpec.ofChange s with cond := some uptoSmall }

/-- 'laws.FnExactSaltAfter', WHERE WHAT IT READS IS OF BULK AT MOST 1048576: true; the input reads as it did. -/
def fnExactSaltAfterUptoRow : OpenClaim := { program := "ytnffhpgchfbmhaa", sum := "e2263c52fee67d20b9cd9abaaea21f0e43da417b2a38ceb76ae543dabfdda3c7", func := "loop.example/g03310/laws.FnExactSaltAfter", spec := "fnExactSaltAfter", apart := false, narrowed := true }
def FnExactSaltAfterUptoSaid : Prop := fnExactSaltAfterUptoRow.holds Try.pinned (OpenSpec.upto fnExactSaltAfterSpec)

/-- 'laws.FnExactMissingPart', WHERE WHAT IT READS IS OF BULK AT MOST 1048576: true; the input reads as it did. -/
def fnExactMissingPartUptoRow : OpenClaim := { program := "ytnffhpgchfbmhaa", sum := "e2263c52fee67d20b9cd9abaaea21f0e43da417b2a38ceb76ae543dabfdda3c7", func := "loop.example/g03310/laws.FnExactMissingPart", spec := "fnExactMissingPart", apart := false, narrowed := true }
def FnExactMissingPartUptoSaid : Prop := fnExactMissingPartUptoRow.holds Try.pinned (OpenSpec.upto fnExactMissingPartSpec)

/-- 'laws.FnExactTwiceIn', WHERE WHAT IT READS IS OF BULK AT MOST 1048576: true; the input reads as it did. -/
def fnExactTwiceInUptoRow : OpenClaim := { program := "ytnffhpgchfbmhaa", sum := "e2263c52fee67d20b9cd9abaaea21f0e43da417b2a38ceb76ae543dabfdda3c7", func := "loop.example/g03310/laws.FnExactTwiceIn", spec := "fnExactTwiceIn", apart := false, narrowed := true }
def FnExactTwiceInUptoSaid : Prop := fnExactTwiceInUptoRow.holds Try.pinned (OpenSpec.upto fnExactTwiceInSpec)

/-- 'laws.FnExactFlourOf', WHERE WHAT IT READS IS OF BULK AT MOST 1048576: true; the input reads as it did. -/
def fnExactFlourOfUptoRow : OpenClaim := { program := "ytnffhpgchfbmhaa", sum := "e2263c52fee67d20b9cd9abaaea21f0e43da417b2a38ceb76ae543dabfdda3c7", func := "loop.example/g03310/laws.FnExactFlourOf", spec := "fnExactFlourOf", apart := false, narrowed := true }
def FnExactFlourOfUptoSaid : Prop := fnExactFlourOfUptoRow.holds Try.pinned (OpenSpec.upto fnExactFlourOfSpec)

/-- 'laws.FnExactCanTell', WHERE WHAT IT READS IS OF BULK AT MOST 1048576: true; the input reads as it did. -/
def fnExactCanTellUptoRow : OpenClaim := { program := "ytnffhpgchfbmhaa", sum := "e2263c52fee67d20b9cd9abaaea21f0e43da417b2a38ceb76ae543dabfdda3c7", func := "loop.example/g03310/laws.FnExactCanTell", spec := "fnExactCanTell", recurses := true, apart := false, narrowed := true }
def FnExactCanTellUptoSaid : Prop := fnExactCanTellUptoRow.holds Try.pinned (OpenSpec.upto fnExactCanTellSpec)

/-- 'laws.FnWeighings', WHERE WHAT IT READS IS OF BULK AT MOST 1048576: true; the input reads as it did. -/
def fnWeighingsUptoRow : OpenClaim := { program := "ytnffhpgchfbmhaa", sum := "e2263c52fee67d20b9cd9abaaea21f0e43da417b2a38ceb76ae543dabfdda3c7", func := "loop.example/g03310/laws.FnWeighings", spec := "fnWeighings", recurses := true, apart := false, narrowed := true }
def FnWeighingsUptoSaid : Prop := fnWeighingsUptoRow.holds Try.pinned (OpenSpec.upto fnWeighingsSpec)

end Rows
end Go.Proofs.Ytnffhpgchfbmhaa
