/-
  No cell of these rows narrows 'for every input' (looked for: loops, veiled, ifaces, maps, wideKeys, modest, calm, conditions, laid).
  DERIVED. THE GIVEN ROWS OF THIS SEAT. 7 by the template 'for every input the law returns true; each argument reads behind the call as it read before'; 0 by the template 'total and deterministic' (their statements: YtcjbdbbnbhobbaaTotals.lean).
  GIVEN WITH THE SEED: the statements are not yours to turn. If you find one false, say at which input.
  Laid BY PROGRAM, IN A SANDBOX (cutbox-rows.mjs): the forced cells as the released guide's own fill.sh prints them over the translation d4a0cc409e0c64c3… (all of the seat's roots in one cut). By AI agents, Wed Nov 11 2026. No macro, syntax, notation, axiom, sorry.
-/
import Derived.Test.YtcjbdbbnbhobbaaChecked
import GoSem.Claim
import GoSem.ClaimJoined
import GoSem.ClaimMapViews
import Derived.JoinedTies
import Derived.KernelRfl
namespace Go.Proofs.Ytcjbdbbnbhobbaa
/- THE CELL 'sum', in the pinned program and in every row, IS THE sha256 OF THE DUMP (.gsa) THAT YtcjbdbbnbhobbaaProg.lean LOADS. Nothing in Lean hashes anything: it is a label: what it is worth is what the hold of that sum in a sandbox is worth. -/
noncomputable def Try.pinned : Pinned := { name := "ytcjbdbbnbhobbaa", sum := "d4a0cc409e0c64c3f4edd82259a5f0fc4bed1661dcfca8d7f8dae8e6ef4816b8", checked := Try.checked }
namespace Rows
def none {H : Type} : Left H := { results := [], args := [] }

/-- 'laws.FnExactLengthsOk': WHATEVER THE INPUT: true; the input reads as it did. -/
def fnExactLengthsOkSpec : ChangeSpec := { name := "fnExactLengthsOk", fn := fun _ => fun
  | [d1, d2] => { results := [.lit (.bool true)], args := [d1, d2] }
  | _ => none }
def fnExactLengthsOkRow : OpenClaim := { program := "ytcjbdbbnbhobbaa", sum := "d4a0cc409e0c64c3f4edd82259a5f0fc4bed1661dcfca8d7f8dae8e6ef4816b8", func := "loop.example/g03310/laws.FnExactLengthsOk", spec := "fnExactLengthsOk", unfollowed := true, recurses := true, apart := false }
def FnExactLengthsOkSaid : Prop := fnExactLengthsOkRow.holds Try.pinned (OpenSpec.ofChange fnExactLengthsOkSpec)

/-- ITS FALSE NEIGHBOUR: 'it returns false'. Refute it at one input. -/
def fnExactLengthsOkWrong : ChangeSpec := { name := "fnExactLengthsOk", fn := fun _ => fun
  | [d1, d2] => { results := [.lit (.bool false)], args := [d1, d2] }
  | _ => none }
def FnExactLengthsOkWrongFalsely : Prop := fnExactLengthsOkRow.holds Try.pinned (OpenSpec.ofChange fnExactLengthsOkWrong)

/-- 'laws.FnSheets': WHATEVER THE INPUT: true; the input reads as it did. -/
def fnSheetsSpec : ChangeSpec := { name := "fnSheets", fn := fun _ => fun
  | [d] => { results := [.lit (.bool true)], args := [d] }
  | _ => none }
def fnSheetsRow : OpenClaim := { program := "ytcjbdbbnbhobbaa", sum := "d4a0cc409e0c64c3f4edd82259a5f0fc4bed1661dcfca8d7f8dae8e6ef4816b8", func := "loop.example/g03310/laws.FnSheets", spec := "fnSheets", unfollowed := true, recurses := true, apart := false }
def FnSheetsSaid : Prop := fnSheetsRow.holds Try.pinned (OpenSpec.ofChange fnSheetsSpec)

/-- ITS FALSE NEIGHBOUR: 'it returns false'. Refute it at one input. -/
def fnSheetsWrong : ChangeSpec := { name := "fnSheets", fn := fun _ => fun
  | [d] => { results := [.lit (.bool false)], args := [d] }
  | _ => none }
def FnSheetsWrongFalsely : Prop := fnSheetsRow.holds Try.pinned (OpenSpec.ofChange fnSheetsWrong)

/-- 'laws.FnExactWasteOf': WHATEVER THE INPUT: true; the input reads as it did. -/
def fnExactWasteOfSpec : ChangeSpec := { name := "fnExactWasteOf", fn := fun _ => fun
  | [d1, d2, d3] => { results := [.lit (.bool true)], args := [d1, d2, d3] }
  | _ => none }
def fnExactWasteOfRow : OpenClaim := { program := "ytcjbdbbnbhobbaa", sum := "d4a0cc409e0c64c3f4edd82259a5f0fc4bed1661dcfca8d7f8dae8e6ef4816b8", func := "loop.example/g03310/laws.FnExactWasteOf", spec := "fnExactWasteOf", unfollowed := true, recurses := true, apart := false }
def FnExactWasteOfSaid : Prop := fnExactWasteOfRow.holds Try.pinned (OpenSpec.ofChange fnExactWasteOfSpec)

/-- ITS FALSE NEIGHBOUR: 'it returns false'. Refute it at one input. -/
def fnExactWasteOfWrong : ChangeSpec := { name := "fnExactWasteOf", fn := fun _ => fun
  | [d1, d2, d3] => { results := [.lit (.bool false)], args := [d1, d2, d3] }
  | _ => none }
def FnExactWasteOfWrongFalsely : Prop := fnExactWasteOfRow.holds Try.pinned (OpenSpec.ofChange fnExactWasteOfWrong)

/-- 'laws.FnExactLeastStrips': WHATEVER THE INPUT: true; the input reads as it did. -/
def fnExactLeastStripsSpec : ChangeSpec := { name := "fnExactLeastStrips", fn := fun _ => fun
  | [d1, d2] => { results := [.lit (.bool true)], args := [d1, d2] }
  | _ => none }
def fnExactLeastStripsRow : OpenClaim := { program := "ytcjbdbbnbhobbaa", sum := "d4a0cc409e0c64c3f4edd82259a5f0fc4bed1661dcfca8d7f8dae8e6ef4816b8", func := "loop.example/g03310/laws.FnExactLeastStrips", spec := "fnExactLeastStrips", unfollowed := true, recurses := true, apart := false }
def FnExactLeastStripsSaid : Prop := fnExactLeastStripsRow.holds Try.pinned (OpenSpec.ofChange fnExactLeastStripsSpec)

/-- ITS FALSE NEIGHBOUR: 'it returns false'. Refute it at one input. -/
def fnExactLeastStripsWrong : ChangeSpec := { name := "fnExactLeastStrips", fn := fun _ => fun
  | [d1, d2] => { results := [.lit (.bool false)], args := [d1, d2] }
  | _ => none }
def FnExactLeastStripsWrongFalsely : Prop := fnExactLeastStripsRow.holds Try.pinned (OpenSpec.ofChange fnExactLeastStripsWrong)

/-- 'laws.FnExactStripsUsed': WHATEVER THE INPUT: true; the input reads as it did. -/
def fnExactStripsUsedSpec : ChangeSpec := { name := "fnExactStripsUsed", fn := fun _ => fun
  | [d1, d2, d3] => { results := [.lit (.bool true)], args := [d1, d2, d3] }
  | _ => none }
def fnExactStripsUsedRow : OpenClaim := { program := "ytcjbdbbnbhobbaa", sum := "d4a0cc409e0c64c3f4edd82259a5f0fc4bed1661dcfca8d7f8dae8e6ef4816b8", func := "loop.example/g03310/laws.FnExactStripsUsed", spec := "fnExactStripsUsed", unfollowed := true, recurses := true, apart := false }
def FnExactStripsUsedSaid : Prop := fnExactStripsUsedRow.holds Try.pinned (OpenSpec.ofChange fnExactStripsUsedSpec)

/-- ITS FALSE NEIGHBOUR: 'it returns false'. Refute it at one input. -/
def fnExactStripsUsedWrong : ChangeSpec := { name := "fnExactStripsUsed", fn := fun _ => fun
  | [d1, d2, d3] => { results := [.lit (.bool false)], args := [d1, d2, d3] }
  | _ => none }
def FnExactStripsUsedWrongFalsely : Prop := fnExactStripsUsedRow.holds Try.pinned (OpenSpec.ofChange fnExactStripsUsedWrong)

/-- 'laws.FnExactFewestStrips': WHATEVER THE INPUT: true; the input reads as it did. -/
def fnExactFewestStripsSpec : ChangeSpec := { name := "fnExactFewestStrips", fn := fun _ => fun
  | [d1, d2] => { results := [.lit (.bool true)], args := [d1, d2] }
  | _ => none }
def fnExactFewestStripsRow : OpenClaim := { program := "ytcjbdbbnbhobbaa", sum := "d4a0cc409e0c64c3f4edd82259a5f0fc4bed1661dcfca8d7f8dae8e6ef4816b8", func := "loop.example/g03310/laws.FnExactFewestStrips", spec := "fnExactFewestStrips", unfollowed := true, recurses := true, apart := false }
def FnExactFewestStripsSaid : Prop := fnExactFewestStripsRow.holds Try.pinned (OpenSpec.ofChange fnExactFewestStripsSpec)

/-- ITS FALSE NEIGHBOUR: 'it returns false'. Refute it at one input. -/
def fnExactFewestStripsWrong : ChangeSpec := { name := "fnExactFewestStrips", fn := fun _ => fun
  | [d1, d2] => { results := [.lit (.bool false)], args := [d1, d2] }
  | _ => none }
def FnExactFewestStripsWrongFalsely : Prop := fnExactFewestStripsRow.holds Try.pinned (OpenSpec.ofChange fnExactFewestStripsWrong)

/-- 'laws.FnExactLongFirst': WHATEVER THE INPUT: true; the input reads as it did. -/
def fnExactLongFirstSpec : ChangeSpec := { name := "fnExactLongFirst", fn := fun _ => fun
  | [d1, d2] => { results := [.lit (.bool true)], args := [d1, d2] }
  | _ => none }
def fnExactLongFirstRow : OpenClaim := { program := "ytcjbdbbnbhobbaa", sum := "d4a0cc409e0c64c3f4edd82259a5f0fc4bed1661dcfca8d7f8dae8e6ef4816b8", func := "loop.example/g03310/laws.FnExactLongFirst", spec := "fnExactLongFirst", unfollowed := true, recurses := true, apart := false }
def FnExactLongFirstSaid : Prop := fnExactLongFirstRow.holds Try.pinned (OpenSpec.ofChange fnExactLongFirstSpec)

/-- ITS FALSE NEIGHBOUR: 'it returns false'. Refute it at one input. -/
def fnExactLongFirstWrong : ChangeSpec := { name := "fnExactLongFirst", fn := fun _ => fun
  | [d1, d2] => { results := [.lit (.bool false)], args := [d1, d2] }
  | _ => none }
def FnExactLongFirstWrongFalsely : Prop := fnExactLongFirstRow.holds Try.pinned (OpenSpec.ofChange fnExactLongFirstWrong)

/- THE SECOND FORM. 'bulk': how many values and letters a reading holds, each counted each time it is reached (what is shared counts as often as it is met; a slice's spare places count too). A statement '..UptoSaid' is the law's where the arguments, and the package variables that the reading takes, are together of bulk at most 1048576: NARROWER than '..Said'. Prove '..Said' where nothing that the law and all that it calls make is longer than what came in: it says more and counts as full. Else prove '..UptoSaid'. A law counts once. -/
mutual
def uptoBulk {H : Type} : DataW H → Nat
  | .lit (.string bytes) => bytes.length + 1
  | .lit _ => 1
  | .nil => 1
  | .ptr d => uptoBulk d + 1
  | .slice elems spare => uptoBulkAll elems + uptoBulkAll spare + 1
  | .agg parts => uptoBulkAll parts + 1
  | .iface _ d => uptoBulk d + 1
  | .map entries => uptoBulkEntries entries + 1
  | .held _ => 1
def uptoBulkAll {H : Type} : List (DataW H) → Nat
  | [] => 0
  | d :: r => uptoBulk d + uptoBulkAll r
def uptoBulkEntries {H : Type} : List (Lit × DataW H) → Nat
  | [] => 0
  | x :: r => uptoBulkEntry x + uptoBulkEntries r
def uptoBulkEntry {H : Type} : Lit × DataW H → Nat
  | (.string bytes, d) => bytes.length + uptoBulk d + 1
  | (_, d) => uptoBulk d + 1
 end
def uptoSmall : (H : Type) → List (DataW H) → Bool := fun _ ds => decide (uptoBulkAll ds ≤ 1048576)
def OpenSpec.upto (s : _root_.Go.ChangeSpec) : _root_.Go.OpenSpec := { _root_.Go.OpenSpec.ofChange s with cond := some uptoSmall }

/-- 'laws.FnExactLengthsOk', WHERE WHAT IT READS IS OF BULK AT MOST 1048576: true; the input reads as it did. -/
def fnExactLengthsOkUptoRow : OpenClaim := { program := "ytcjbdbbnbhobbaa", sum := "d4a0cc409e0c64c3f4edd82259a5f0fc4bed1661dcfca8d7f8dae8e6ef4816b8", func := "loop.example/g03310/laws.FnExactLengthsOk", spec := "fnExactLengthsOk", unfollowed := true, recurses := true, apart := false, narrowed := true }
def FnExactLengthsOkUptoSaid : Prop := fnExactLengthsOkUptoRow.holds Try.pinned (OpenSpec.upto fnExactLengthsOkSpec)

/-- 'laws.FnSheets', WHERE WHAT IT READS IS OF BULK AT MOST 1048576: true; the input reads as it did. -/
def fnSheetsUptoRow : OpenClaim := { program := "ytcjbdbbnbhobbaa", sum := "d4a0cc409e0c64c3f4edd82259a5f0fc4bed1661dcfca8d7f8dae8e6ef4816b8", func := "loop.example/g03310/laws.FnSheets", spec := "fnSheets", unfollowed := true, recurses := true, apart := false, narrowed := true }
def FnSheetsUptoSaid : Prop := fnSheetsUptoRow.holds Try.pinned (OpenSpec.upto fnSheetsSpec)

/-- 'laws.FnExactWasteOf', WHERE WHAT IT READS IS OF BULK AT MOST 1048576: true; the input reads as it did. -/
def fnExactWasteOfUptoRow : OpenClaim := { program := "ytcjbdbbnbhobbaa", sum := "d4a0cc409e0c64c3f4edd82259a5f0fc4bed1661dcfca8d7f8dae8e6ef4816b8", func := "loop.example/g03310/laws.FnExactWasteOf", spec := "fnExactWasteOf", unfollowed := true, recurses := true, apart := false, narrowed := true }
def FnExactWasteOfUptoSaid : Prop := fnExactWasteOfUptoRow.holds Try.pinned (OpenSpec.upto fnExactWasteOfSpec)

/-- 'laws.FnExactLeastStrips', WHERE WHAT IT READS IS OF BULK AT MOST 1048576: true; the input reads as it did. -/
def fnExactLeastStripsUptoRow : OpenClaim := { program := "ytcjbdbbnbhobbaa", sum := "d4a0cc409e0c64c3f4edd82259a5f0fc4bed1661dcfca8d7f8dae8e6ef4816b8", func := "loop.example/g03310/laws.FnExactLeastStrips", spec := "fnExactLeastStrips", unfollowed := true, recurses := true, apart := false, narrowed := true }
def FnExactLeastStripsUptoSaid : Prop := fnExactLeastStripsUptoRow.holds Try.pinned (OpenSpec.upto fnExactLeastStripsSpec)

/-- 'laws.FnExactStripsUsed', WHERE WHAT IT READS IS OF BULK AT MOST 1048576: true; the input reads as it did. -/
def fnExactStripsUsedUptoRow : OpenClaim := { program := "ytcjbdbbnbhobbaa", sum := "d4a0cc409e0c64c3f4edd82259a5f0fc4bed1661dcfca8d7f8dae8e6ef4816b8", func := "loop.example/g03310/laws.FnExactStripsUsed", spec := "fnExactStripsUsed", unfollowed := true, recurses := true, apart := false, narrowed := true }
def FnExactStripsUsedUptoSaid : Prop := fnExactStripsUsedUptoRow.holds Try.pinned (OpenSpec.upto fnExactStripsUsedSpec)

/-- 'laws.FnExactFewestStrips', WHERE WHAT IT READS IS OF BULK AT MOST 1048576: true; the input reads as it did. -/
def fnExactFewestStripsUptoRow : OpenClaim := { program := "ytcjbdbbnbhobbaa", sum := "d4a0cc409e0c64c3f4edd82259a5f0fc4bed1661dcfca8d7f8dae8e6ef4816b8", func := "loop.example/g03310/laws.FnExactFewestStrips", spec := "fnExactFewestStrips", unfollowed := true, recurses := true, apart := false, narrowed := true }
def FnExactFewestStripsUptoSaid : Prop := fnExactFewestStripsUptoRow.holds Try.pinned (OpenSpec.upto fnExactFewestStripsSpec)

/-- 'laws.FnExactLongFirst', WHERE WHAT IT READS IS OF BULK AT MOST 1048576: true; the input reads as it did. -/
def fnExactLongFirstUptoRow : OpenClaim := { program := "ytcjbdbbnbhobbaa", sum := "d4a0cc409e0c64c3f4edd82259a5f0fc4bed1661dcfca8d7f8dae8e6ef4816b8", func := "loop.example/g03310/laws.FnExactLongFirst", spec := "fnExactLongFirst", unfollowed := true, recurses := true, apart := false, narrowed := true }
def FnExactLongFirstUptoSaid : Prop := fnExactLongFirstUptoRow.holds Try.pinned (OpenSpec.upto fnExactLongFirstSpec)

end Rows
end Go.Proofs.Ytcjbdbbnbhobbaa
