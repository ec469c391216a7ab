/-
  No cell of these rows narrows 'for every input' (looked for: loops, veiled, ifaces, maps, wideKeys, modest, calm, conditions, laid).
  DERIVED. THE GIVEN ROWS OF THIS SEAT. 7 by the template 'for every input the law returns true; each argument reads behind the call as it read before'; 0 by the template 'total and deterministic' (their statements: YthnflldlljpmpaaTotals.lean).
  GIVEN WITH THE SEED: the statements are not yours to turn. If you find one false, say at which input.
  Laid BY PROGRAM, IN A SANDBOX (cutbox-rows.mjs): the forced cells as the released guide's own fill.sh prints them over the translation c99b5d139d5a3b3b… (all of the seat's roots in one cut). By AI agents, Wed Nov 11 2026. No macro, syntax, notation, axiom, sorry.
-/
import Derived.Test.YthnflldlljpmpaaChecked
import GoSem.Claim
import GoSem.ClaimJoined
import GoSem.ClaimMapViews
import Derived.JoinedTies
import Derived.KernelRfl
namespace Go.Proofs.Ythnflldlljpmpaa
/- THE CELL 'sum', in the pinned program and in every row, IS THE sha256 OF THE DUMP (.gsa) THAT YthnflldlljpmpaaProg.lean LOADS. Nothing in Lean hashes anything: it is a label: what it is worth is what the hold of that sum in a sandbox is worth. -/
noncomputable def Try.pinned : Pinned := { name := "ythnflldlljpmpaa", sum := "c99b5d139d5a3b3b2b238fd0c337bfb817828f75c592b0005a43d9297eed6a55", checked := Try.checked }
namespace Rows
def none {H : Type} : Left H := { results := [], args := [] }

/-- 'laws.FnExactMachinesOk': WHATEVER THE INPUT: true; the input reads as it did. -/
def fnExactMachinesOkSpec : ChangeSpec := { name := "fnExactMachinesOk", fn := fun _ => fun
  | [d] => { results := [.lit (.bool true)], args := [d] }
  | _ => none }
def fnExactMachinesOkRow : OpenClaim := { program := "ythnflldlljpmpaa", sum := "c99b5d139d5a3b3b2b238fd0c337bfb817828f75c592b0005a43d9297eed6a55", func := "loop.example/g03310/laws.FnExactMachinesOk", spec := "fnExactMachinesOk", unfollowed := true, recurses := true, apart := false }
def FnExactMachinesOkSaid : Prop := fnExactMachinesOkRow.holds Try.pinned (OpenSpec.ofChange fnExactMachinesOkSpec)

/-- ITS FALSE NEIGHBOUR: 'it returns false'. Refute it at one input. -/
def fnExactMachinesOkWrong : ChangeSpec := { name := "fnExactMachinesOk", fn := fun _ => fun
  | [d] => { results := [.lit (.bool false)], args := [d] }
  | _ => none }
def FnExactMachinesOkWrongFalsely : Prop := fnExactMachinesOkRow.holds Try.pinned (OpenSpec.ofChange fnExactMachinesOkWrong)

/-- 'laws.FnExactPowerAt': WHATEVER THE INPUT: true; the input reads as it did. -/
def fnExactPowerAtSpec : ChangeSpec := { name := "fnExactPowerAt", fn := fun _ => fun
  | [d1, d2] => { results := [.lit (.bool true)], args := [d1, d2] }
  | _ => none }
def fnExactPowerAtRow : OpenClaim := { program := "ythnflldlljpmpaa", sum := "c99b5d139d5a3b3b2b238fd0c337bfb817828f75c592b0005a43d9297eed6a55", func := "loop.example/g03310/laws.FnExactPowerAt", spec := "fnExactPowerAt", unfollowed := true, recurses := true, apart := false }
def FnExactPowerAtSaid : Prop := fnExactPowerAtRow.holds Try.pinned (OpenSpec.ofChange fnExactPowerAtSpec)

/-- ITS FALSE NEIGHBOUR: 'it returns false'. Refute it at one input. -/
def fnExactPowerAtWrong : ChangeSpec := { name := "fnExactPowerAt", fn := fun _ => fun
  | [d1, d2] => { results := [.lit (.bool false)], args := [d1, d2] }
  | _ => none }
def FnExactPowerAtWrongFalsely : Prop := fnExactPowerAtRow.holds Try.pinned (OpenSpec.ofChange fnExactPowerAtWrong)

/-- 'laws.FnExactEnergyOf': WHATEVER THE INPUT: true; the input reads as it did. -/
def fnExactEnergyOfSpec : ChangeSpec := { name := "fnExactEnergyOf", fn := fun _ => fun
  | [d] => { results := [.lit (.bool true)], args := [d] }
  | _ => none }
def fnExactEnergyOfRow : OpenClaim := { program := "ythnflldlljpmpaa", sum := "c99b5d139d5a3b3b2b238fd0c337bfb817828f75c592b0005a43d9297eed6a55", func := "loop.example/g03310/laws.FnExactEnergyOf", spec := "fnExactEnergyOf", unfollowed := true, recurses := true, apart := false }
def FnExactEnergyOfSaid : Prop := fnExactEnergyOfRow.holds Try.pinned (OpenSpec.ofChange fnExactEnergyOfSpec)

/-- ITS FALSE NEIGHBOUR: 'it returns false'. Refute it at one input. -/
def fnExactEnergyOfWrong : ChangeSpec := { name := "fnExactEnergyOf", fn := fun _ => fun
  | [d] => { results := [.lit (.bool false)], args := [d] }
  | _ => none }
def FnExactEnergyOfWrongFalsely : Prop := fnExactEnergyOfRow.holds Try.pinned (OpenSpec.ofChange fnExactEnergyOfWrong)

/-- 'laws.FnExactOverTimes': WHATEVER THE INPUT: true; the input reads as it did. -/
def fnExactOverTimesSpec : ChangeSpec := { name := "fnExactOverTimes", fn := fun _ => fun
  | [d1, d2] => { results := [.lit (.bool true)], args := [d1, d2] }
  | _ => none }
def fnExactOverTimesRow : OpenClaim := { program := "ythnflldlljpmpaa", sum := "c99b5d139d5a3b3b2b238fd0c337bfb817828f75c592b0005a43d9297eed6a55", func := "loop.example/g03310/laws.FnExactOverTimes", spec := "fnExactOverTimes", unfollowed := true, recurses := true, apart := false }
def FnExactOverTimesSaid : Prop := fnExactOverTimesRow.holds Try.pinned (OpenSpec.ofChange fnExactOverTimesSpec)

/-- ITS FALSE NEIGHBOUR: 'it returns false'. Refute it at one input. -/
def fnExactOverTimesWrong : ChangeSpec := { name := "fnExactOverTimes", fn := fun _ => fun
  | [d1, d2] => { results := [.lit (.bool false)], args := [d1, d2] }
  | _ => none }
def FnExactOverTimesWrongFalsely : Prop := fnExactOverTimesRow.holds Try.pinned (OpenSpec.ofChange fnExactOverTimesWrong)

/-- 'laws.FnExactPeakPower': WHATEVER THE INPUT: true; the input reads as it did. -/
def fnExactPeakPowerSpec : ChangeSpec := { name := "fnExactPeakPower", fn := fun _ => fun
  | [d] => { results := [.lit (.bool true)], args := [d] }
  | _ => none }
def fnExactPeakPowerRow : OpenClaim := { program := "ythnflldlljpmpaa", sum := "c99b5d139d5a3b3b2b238fd0c337bfb817828f75c592b0005a43d9297eed6a55", func := "loop.example/g03310/laws.FnExactPeakPower", spec := "fnExactPeakPower", unfollowed := true, recurses := true, apart := false }
def FnExactPeakPowerSaid : Prop := fnExactPeakPowerRow.holds Try.pinned (OpenSpec.ofChange fnExactPeakPowerSpec)

/-- ITS FALSE NEIGHBOUR: 'it returns false'. Refute it at one input. -/
def fnExactPeakPowerWrong : ChangeSpec := { name := "fnExactPeakPower", fn := fun _ => fun
  | [d] => { results := [.lit (.bool false)], args := [d] }
  | _ => none }
def FnExactPeakPowerWrongFalsely : Prop := fnExactPeakPowerRow.holds Try.pinned (OpenSpec.ofChange fnExactPeakPowerWrong)

/-- 'laws.FnPowers': WHATEVER THE INPUT: true; the input reads as it did. -/
def fnPowersSpec : ChangeSpec := { name := "fnPowers", fn := fun _ => fun
  | [d] => { results := [.lit (.bool true)], args := [d] }
  | _ => none }
def fnPowersRow : OpenClaim := { program := "ythnflldlljpmpaa", sum := "c99b5d139d5a3b3b2b238fd0c337bfb817828f75c592b0005a43d9297eed6a55", func := "loop.example/g03310/laws.FnPowers", spec := "fnPowers", unfollowed := true, recurses := true, apart := false }
def FnPowersSaid : Prop := fnPowersRow.holds Try.pinned (OpenSpec.ofChange fnPowersSpec)

/-- ITS FALSE NEIGHBOUR: 'it returns false'. Refute it at one input. -/
def fnPowersWrong : ChangeSpec := { name := "fnPowers", fn := fun _ => fun
  | [d] => { results := [.lit (.bool false)], args := [d] }
  | _ => none }
def FnPowersWrongFalsely : Prop := fnPowersRow.holds Try.pinned (OpenSpec.ofChange fnPowersWrong)

/-- 'laws.FnExactBestStart': WHATEVER THE INPUT: true; the input reads as it did. -/
def fnExactBestStartSpec : ChangeSpec := { name := "fnExactBestStart", fn := fun _ => fun
  | [d1, d2, d3] => { results := [.lit (.bool true)], args := [d1, d2, d3] }
  | _ => none }
def fnExactBestStartRow : OpenClaim := { program := "ythnflldlljpmpaa", sum := "c99b5d139d5a3b3b2b238fd0c337bfb817828f75c592b0005a43d9297eed6a55", func := "loop.example/g03310/laws.FnExactBestStart", spec := "fnExactBestStart", unfollowed := true, recurses := true, apart := false }
def FnExactBestStartSaid : Prop := fnExactBestStartRow.holds Try.pinned (OpenSpec.ofChange fnExactBestStartSpec)

/-- ITS FALSE NEIGHBOUR: 'it returns false'. Refute it at one input. -/
def fnExactBestStartWrong : ChangeSpec := { name := "fnExactBestStart", fn := fun _ => fun
  | [d1, d2, d3] => { results := [.lit (.bool false)], args := [d1, d2, d3] }
  | _ => none }
def FnExactBestStartWrongFalsely : Prop := fnExactBestStartRow.holds Try.pinned (OpenSpec.ofChange fnExactBestStartWrong)

/- THE SECOND FORM. 'bulk': how many values and letters a reading holds, each counted each time it is reached (what is shared counts as often as it is met; a slice's spare places count too). A statement '..UptoSaid' is the law's where the arguments, and the package variables that the reading takes, are together of bulk at most 1048576: NARROWER than '..Said'. Prove '..Said' where nothing that the law and all that it calls make is longer than what came in: it says more and counts as full. Else prove '..UptoSaid'. A law counts once. -/
mutual
def uptoBulk {H : Type} : DataW H → Nat
  | .lit (.string bytes) => bytes.length + 1
  | .lit _ => 1
  | .nil => 1
  | .ptr d => uptoBulk d + 1
  | .slice elems spare => uptoBulkAll elems + uptoBulkAll spare + 1
  | .agg parts => uptoBulkAll parts + 1
  | .iface _ d => uptoBulk d + 1
  | .map entries => uptoBulkEntries entries + 1
  | .held _ => 1
def uptoBulkAll {H : Type} : List (DataW H) → Nat
  | [] => 0
  | d :: r => uptoBulk d + uptoBulkAll r
def uptoBulkEntries {H : Type} : List (Lit × DataW H) → Nat
  | [] => 0
  | x :: r => uptoBulkEntry x + uptoBulkEntries r
def uptoBulkEntry {H : Type} : Lit × DataW H → Nat
  | (.string bytes, d) => bytes.length + uptoBulk d + 1
  | (_, d) => uptoBulk d + 1
 end
def uptoSmall : (H : Type) → List (DataW H) → Bool := fun _ ds => decide (uptoBulkAll ds ≤ 1048576)
def OpenSpec.upto (s : _root_.Go.ChangeSpec) : _root_.Go.OpenSpec := { _root_.Go.OpenSpec.ofChange s with cond := some uptoSmall }

/-- 'laws.FnExactMachinesOk', WHERE WHAT IT READS IS OF BULK AT MOST 1048576: true; the input reads as it did. -/
def fnExactMachinesOkUptoRow : OpenClaim := { program := "ythnflldlljpmpaa", sum := "c99b5d139d5a3b3b2b238fd0c337bfb817828f75c592b0005a43d9297eed6a55", func := "loop.example/g03310/laws.FnExactMachinesOk", spec := "fnExactMachinesOk", unfollowed := true, recurses := true, apart := false, narrowed := true }
def FnExactMachinesOkUptoSaid : Prop := fnExactMachinesOkUptoRow.holds Try.pinned (OpenSpec.upto fnExactMachinesOkSpec)

/-- 'laws.FnExactPowerAt', WHERE WHAT IT READS IS OF BULK AT MOST 1048576: true; the input reads as it did. -/
def fnExactPowerAtUptoRow : OpenClaim := { program := "ythnflldlljpmpaa", sum := "c99b5d139d5a3b3b2b238fd0c337bfb817828f75c592b0005a43d9297eed6a55", func := "loop.example/g03310/laws.FnExactPowerAt", spec := "fnExactPowerAt", unfollowed := true, recurses := true, apart := false, narrowed := true }
def FnExactPowerAtUptoSaid : Prop := fnExactPowerAtUptoRow.holds Try.pinned (OpenSpec.upto fnExactPowerAtSpec)

/-- 'laws.FnExactEnergyOf', WHERE WHAT IT READS IS OF BULK AT MOST 1048576: true; the input reads as it did. -/
def fnExactEnergyOfUptoRow : OpenClaim := { program := "ythnflldlljpmpaa", sum := "c99b5d139d5a3b3b2b238fd0c337bfb817828f75c592b0005a43d9297eed6a55", func := "loop.example/g03310/laws.FnExactEnergyOf", spec := "fnExactEnergyOf", unfollowed := true, recurses := true, apart := false, narrowed := true }
def FnExactEnergyOfUptoSaid : Prop := fnExactEnergyOfUptoRow.holds Try.pinned (OpenSpec.upto fnExactEnergyOfSpec)

/-- 'laws.FnExactOverTimes', WHERE WHAT IT READS IS OF BULK AT MOST 1048576: true; the input reads as it did. -/
def fnExactOverTimesUptoRow : OpenClaim := { program := "ythnflldlljpmpaa", sum := "c99b5d139d5a3b3b2b238fd0c337bfb817828f75c592b0005a43d9297eed6a55", func := "loop.example/g03310/laws.FnExactOverTimes", spec := "fnExactOverTimes", unfollowed := true, recurses := true, apart := false, narrowed := true }
def FnExactOverTimesUptoSaid : Prop := fnExactOverTimesUptoRow.holds Try.pinned (OpenSpec.upto fnExactOverTimesSpec)

/-- 'laws.FnExactPeakPower', WHERE WHAT IT READS IS OF BULK AT MOST 1048576: true; the input reads as it did. -/
def fnExactPeakPowerUptoRow : OpenClaim := { program := "ythnflldlljpmpaa", sum := "c99b5d139d5a3b3b2b238fd0c337bfb817828f75c592b0005a43d9297eed6a55", func := "loop.example/g03310/laws.FnExactPeakPower", spec := "fnExactPeakPower", unfollowed := true, recurses := true, apart := false, narrowed := true }
def FnExactPeakPowerUptoSaid : Prop := fnExactPeakPowerUptoRow.holds Try.pinned (OpenSpec.upto fnExactPeakPowerSpec)

/-- 'laws.FnPowers', WHERE WHAT IT READS IS OF BULK AT MOST 1048576: true; the input reads as it did. -/
def fnPowersUptoRow : OpenClaim := { program := "ythnflldlljpmpaa", sum := "c99b5d139d5a3b3b2b238fd0c337bfb817828f75c592b0005a43d9297eed6a55", func := "loop.example/g03310/laws.FnPowers", spec := "fnPowers", unfollowed := true, recurses := true, apart := false, narrowed := true }
def FnPowersUptoSaid : Prop := fnPowersUptoRow.holds Try.pinned (OpenSpec.upto fnPowersSpec)

/-- 'laws.FnExactBestStart', WHERE WHAT IT READS IS OF BULK AT MOST 1048576: true; the input reads as it did. -/
def fnExactBestStartUptoRow : OpenClaim := { program := "ythnflldlljpmpaa", sum := "c99b5d139d5a3b3b2b238fd0c337bfb817828f75c592b0005a43d9297eed6a55", func := "loop.example/g03310/laws.FnExactBestStart", spec := "fnExactBestStart", unfollowed := true, recurses := true, apart := false, narrowed := true }
def FnExactBestStartUptoSaid : Prop := fnExactBestStartUptoRow.holds Try.pinned (OpenSpec.upto fnExactBestStartSpec)

end Rows
end Go.Proofs.Ythnflldlljpmpaa
