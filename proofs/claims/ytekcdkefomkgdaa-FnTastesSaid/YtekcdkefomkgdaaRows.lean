/-
  No cell of these rows narrows 'for every input' (looked for: loops, veiled, ifaces, maps, wideKeys, modest, calm, conditions, laid).
  DERIVED. THE GIVEN ROWS OF THIS SEAT. 4 by the template 'for every input the law returns true; each argument reads behind the call as it read before'; 0 by the template 'total and deterministic' (their statements: YtekcdkefomkgdaaTotals.lean).
  GIVEN WITH THE SEED: the statements are not yours to turn. If you find one false, say at which input.
  Laid BY PROGRAM, IN A SANDBOX (cutbox-rows.mjs): the forced cells as the released guide's own fill.sh prints them over the translation 0086bc5349b5e376… (all of the seat's roots in one cut). By AI agents, Wed Nov 11 2026. No macro, syntax, notation, axiom, sorry.
-/
import Derived.Test.YtekcdkefomkgdaaChecked
import GoSem.Claim
import GoSem.ClaimJoined
import GoSem.ClaimMapViews
import Derived.JoinedTies
import Derived.KernelRfl
namespace Go.Proofs.Ytekcdkefomkgdaa
/- THE CELL 'sum', in the pinned program and in every row, IS THE sha256 OF THE DUMP (.gsa) THAT YtekcdkefomkgdaaProg.lean LOADS. Nothing in Lean hashes anything: it is a label: what it is worth is what the hold of that sum in a sandbox is worth. -/
noncomputable def Try.pinned : Pinned := { name := "ytekcdkefomkgdaa", sum := "0086bc5349b5e37653b559c7629e5fea77e7ddb3848642adebb5f4ee7378ee2b", checked := Try.checked }
namespace Rows
def none {H : Type} : Left H := { results := [], args := [] }

/-- 'laws.FnExactVotesOk': WHATEVER THE INPUT: true; the input reads as it did. -/
def fnExactVotesOkSpec : ChangeSpec := { name := "fnExactVotesOk", fn := fun _ => fun
  | [d1, d2] => { results := [.lit (.bool true)], args := [d1, d2] }
  | _ => none }
def fnExactVotesOkRow : OpenClaim := { program := "ytekcdkefomkgdaa", sum := "0086bc5349b5e37653b559c7629e5fea77e7ddb3848642adebb5f4ee7378ee2b", func := "loop.example/g03310/laws.FnExactVotesOk", spec := "fnExactVotesOk", unfollowed := true, recurses := true, apart := false }
def FnExactVotesOkSaid : Prop := fnExactVotesOkRow.holds Try.pinned (OpenSpec.ofChange fnExactVotesOkSpec)

/-- ITS FALSE NEIGHBOUR: 'it returns false'. Refute it at one input. -/
def fnExactVotesOkWrong : ChangeSpec := { name := "fnExactVotesOk", fn := fun _ => fun
  | [d1, d2] => { results := [.lit (.bool false)], args := [d1, d2] }
  | _ => none }
def FnExactVotesOkWrongFalsely : Prop := fnExactVotesOkRow.holds Try.pinned (OpenSpec.ofChange fnExactVotesOkWrong)

/-- 'laws.FnExactPrefers': WHATEVER THE INPUT: true; the input reads as it did. -/
def fnExactPrefersSpec : ChangeSpec := { name := "fnExactPrefers", fn := fun _ => fun
  | [d1, d2, d3, d4] => { results := [.lit (.bool true)], args := [d1, d2, d3, d4] }
  | _ => none }
def fnExactPrefersRow : OpenClaim := { program := "ytekcdkefomkgdaa", sum := "0086bc5349b5e37653b559c7629e5fea77e7ddb3848642adebb5f4ee7378ee2b", func := "loop.example/g03310/laws.FnExactPrefers", spec := "fnExactPrefers", unfollowed := true, recurses := true, apart := false }
def FnExactPrefersSaid : Prop := fnExactPrefersRow.holds Try.pinned (OpenSpec.ofChange fnExactPrefersSpec)

/-- ITS FALSE NEIGHBOUR: 'it returns false'. Refute it at one input. -/
def fnExactPrefersWrong : ChangeSpec := { name := "fnExactPrefers", fn := fun _ => fun
  | [d1, d2, d3, d4] => { results := [.lit (.bool false)], args := [d1, d2, d3, d4] }
  | _ => none }
def FnExactPrefersWrongFalsely : Prop := fnExactPrefersRow.holds Try.pinned (OpenSpec.ofChange fnExactPrefersWrong)

/-- 'laws.FnExactPointsOf': WHATEVER THE INPUT: true; the input reads as it did. -/
def fnExactPointsOfSpec : ChangeSpec := { name := "fnExactPointsOf", fn := fun _ => fun
  | [d1, d2] => { results := [.lit (.bool true)], args := [d1, d2] }
  | _ => none }
def fnExactPointsOfRow : OpenClaim := { program := "ytekcdkefomkgdaa", sum := "0086bc5349b5e37653b559c7629e5fea77e7ddb3848642adebb5f4ee7378ee2b", func := "loop.example/g03310/laws.FnExactPointsOf", spec := "fnExactPointsOf", unfollowed := true, recurses := true, apart := false }
def FnExactPointsOfSaid : Prop := fnExactPointsOfRow.holds Try.pinned (OpenSpec.ofChange fnExactPointsOfSpec)

/-- ITS FALSE NEIGHBOUR: 'it returns false'. Refute it at one input. -/
def fnExactPointsOfWrong : ChangeSpec := { name := "fnExactPointsOf", fn := fun _ => fun
  | [d1, d2] => { results := [.lit (.bool false)], args := [d1, d2] }
  | _ => none }
def FnExactPointsOfWrongFalsely : Prop := fnExactPointsOfRow.holds Try.pinned (OpenSpec.ofChange fnExactPointsOfWrong)

/-- 'laws.FnTastes': WHATEVER THE INPUT: true; the input reads as it did. -/
def fnTastesSpec : ChangeSpec := { name := "fnTastes", fn := fun _ => fun
  | [d] => { results := [.lit (.bool true)], args := [d] }
  | _ => none }
def fnTastesRow : OpenClaim := { program := "ytekcdkefomkgdaa", sum := "0086bc5349b5e37653b559c7629e5fea77e7ddb3848642adebb5f4ee7378ee2b", func := "loop.example/g03310/laws.FnTastes", spec := "fnTastes", unfollowed := true, recurses := true, apart := false }
def FnTastesSaid : Prop := fnTastesRow.holds Try.pinned (OpenSpec.ofChange fnTastesSpec)

/-- ITS FALSE NEIGHBOUR: 'it returns false'. Refute it at one input. -/
def fnTastesWrong : ChangeSpec := { name := "fnTastes", fn := fun _ => fun
  | [d] => { results := [.lit (.bool false)], args := [d] }
  | _ => none }
def FnTastesWrongFalsely : Prop := fnTastesRow.holds Try.pinned (OpenSpec.ofChange fnTastesWrong)

/- THE SECOND FORM. 'bulk': how many values and letters a reading holds, each counted each time it is reached (what is shared counts as often as it is met; a slice's spare places count too). A statement '..UptoSaid' is the law's where the arguments, and the package variables that the reading takes, are together of bulk at most 1048576: NARROWER than '..Said'. Prove '..Said' where nothing that the law and all that it calls make is longer than what came in: it says more and counts as full. Else prove '..UptoSaid'. A law counts once. -/
mutual
def uptoBulk {H : Type} : DataW H → Nat
  | .lit (.string bytes) => bytes.length + 1
  | .lit _ => 1
  | .nil => 1
  | .ptr d => uptoBulk d + 1
  | .slice elems spare => uptoBulkAll elems + uptoBulkAll spare + 1
  | .agg parts => uptoBulkAll parts + 1
  | .iface _ d => uptoBulk d + 1
  | .map entries => uptoBulkEntries entries + 1
  | .held _ => 1
def uptoBulkAll {H : Type} : List (DataW H) → Nat
  | [] => 0
  | d :: r => uptoBulk d + uptoBulkAll r
def uptoBulkEntries {H : Type} : List (Lit × DataW H) → Nat
  | [] => 0
  | x :: r => uptoBulkEntry x + uptoBulkEntries r
def uptoBulkEntry {H : Type} : Lit × DataW H → Nat
  | (.string bytes, d) => bytes.length + uptoBulk d + 1
  | (_, d) => uptoBulk d + 1
 end
def uptoSmall : (H : Type) → List (DataW H) → Bool := fun _ ds => decide (uptoBulkAll ds ≤ 1048576)
def OpenSpec.upto (s : _root_.Go.ChangeSpec) : _root_.Go.OpenSpec := { _root_.Go.OpenSpec.ofChange s with cond := some uptoSmall }

/-- 'laws.FnExactVotesOk', WHERE WHAT IT READS IS OF BULK AT MOST 1048576: true; the input reads as it did. -/
def fnExactVotesOkUptoRow : OpenClaim := { program := "ytekcdkefomkgdaa", sum := "0086bc5349b5e37653b559c7629e5fea77e7ddb3848642adebb5f4ee7378ee2b", func := "loop.example/g03310/laws.FnExactVotesOk", spec := "fnExactVotesOk", unfollowed := true, recurses := true, apart := false, narrowed := true }
def FnExactVotesOkUptoSaid : Prop := fnExactVotesOkUptoRow.holds Try.pinned (OpenSpec.upto fnExactVotesOkSpec)

/-- 'laws.FnExactPrefers', WHERE WHAT IT READS IS OF BULK AT MOST 1048576: true; the input reads as it did. -/
def fnExactPrefersUptoRow : OpenClaim := { program := "ytekcdkefomkgdaa", sum := "0086bc5349b5e37653b559c7629e5fea77e7ddb3848642adebb5f4ee7378ee2b", func := "loop.example/g03310/laws.FnExactPrefers", spec := "fnExactPrefers", unfollowed := true, recurses := true, apart := false, narrowed := true }
def FnExactPrefersUptoSaid : Prop := fnExactPrefersUptoRow.holds Try.pinned (OpenSpec.upto fnExactPrefersSpec)

/-- 'laws.FnExactPointsOf', WHERE WHAT IT READS IS OF BULK AT MOST 1048576: true; the input reads as it did. -/
def fnExactPointsOfUptoRow : OpenClaim := { program := "ytekcdkefomkgdaa", sum := "0086bc5349b5e37653b559c7629e5fea77e7ddb3848642adebb5f4ee7378ee2b", func := "loop.example/g03310/laws.FnExactPointsOf", spec := "fnExactPointsOf", unfollowed := true, recurses := true, apart := false, narrowed := true }
def FnExactPointsOfUptoSaid : Prop := fnExactPointsOfUptoRow.holds Try.pinned (OpenSpec.upto fnExactPointsOfSpec)

/-- 'laws.FnTastes', WHERE WHAT IT READS IS OF BULK AT MOST 1048576: true; the input reads as it did. -/
def fnTastesUptoRow : OpenClaim := { program := "ytekcdkefomkgdaa", sum := "0086bc5349b5e37653b559c7629e5fea77e7ddb3848642adebb5f4ee7378ee2b", func := "loop.example/g03310/laws.FnTastes", spec := "fnTastes", unfollowed := true, recurses := true, apart := false, narrowed := true }
def FnTastesUptoSaid : Prop := fnTastesUptoRow.holds Try.pinned (OpenSpec.upto fnTastesSpec)

end Rows
end Go.Proofs.Ytekcdkefomkgdaa
