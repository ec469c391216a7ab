/-
  No cell of these rows narrows 'for every input' (looked for: loops, veiled, ifaces, maps, wideKeys, modest, calm, conditions, laid).
  DERIVED. THE GIVEN ROWS OF THIS SEAT. 4 by the template 'for every input the law returns true; each argument reads behind the call as it read before'; 0 by the template 'total and deterministic' (their statements: YtjabgjlkemfofaaTotals.lean).
  GIVEN WITH THE SEED: the statements are not yours to turn. If you find one false, say at which input.
  Laid BY PROGRAM, IN A SANDBOX (cutbox-rows.mjs): the forced cells as the released guide's own fill.sh prints them over the translation 67c209b712b97f91… (all of the seat's roots in one cut). By AI agents, Wed Nov 11 2026. No macro, syntax, notation, axiom, sorry.
-/
import Derived.Test.YtjabgjlkemfofaaChecked
import GoSem.Claim
import GoSem.ClaimJoined
import GoSem.ClaimMapViews
import Derived.JoinedTies
import Derived.KernelRfl
namespace Go.Proofs.Ytjabgjlkemfofaa
/- THE CELL 'sum', in the pinned program and in every row, IS THE sha256 OF THE DUMP (.gsa) THAT YtjabgjlkemfofaaProg.lean LOADS. Nothing in Lean hashes anything: it is a label: what it is worth is what the hold of that sum in a sandbox is worth. -/
noncomputable def Try.pinned : Pinned := { name := "ytjabgjlkemfofaa", sum := "67c209b712b97f91ac1dd79a8ae824b4f33739d36b890937fd25157f5bf569f4", checked := Try.checked }
namespace Rows
def none {H : Type} : Left H := { results := [], args := [] }

/-- 'laws.FnExactPartsOk': WHATEVER THE INPUT: true; the input reads as it did. -/
def fnExactPartsOkSpec : ChangeSpec := { name := "fnExactPartsOk", fn := fun _ => fun
  | [d] => { results := [.lit (.bool true)], args := [d] }
  | _ => none }
def fnExactPartsOkRow : OpenClaim := { program := "ytjabgjlkemfofaa", sum := "67c209b712b97f91ac1dd79a8ae824b4f33739d36b890937fd25157f5bf569f4", func := "loop.example/g03310/laws.FnExactPartsOk", spec := "fnExactPartsOk", unfollowed := true, recurses := true, apart := false }
def FnExactPartsOkSaid : Prop := fnExactPartsOkRow.holds Try.pinned (OpenSpec.ofChange fnExactPartsOkSpec)

/-- ITS FALSE NEIGHBOUR: 'it returns false'. Refute it at one input. -/
def fnExactPartsOkWrong : ChangeSpec := { name := "fnExactPartsOk", fn := fun _ => fun
  | [d] => { results := [.lit (.bool false)], args := [d] }
  | _ => none }
def FnExactPartsOkWrongFalsely : Prop := fnExactPartsOkRow.holds Try.pinned (OpenSpec.ofChange fnExactPartsOkWrong)

/-- 'laws.FnExactSortedParts': WHATEVER THE INPUT: true; the input reads as it did. -/
def fnExactSortedPartsSpec : ChangeSpec := { name := "fnExactSortedParts", fn := fun _ => fun
  | [d] => { results := [.lit (.bool true)], args := [d] }
  | _ => none }
def fnExactSortedPartsRow : OpenClaim := { program := "ytjabgjlkemfofaa", sum := "67c209b712b97f91ac1dd79a8ae824b4f33739d36b890937fd25157f5bf569f4", func := "loop.example/g03310/laws.FnExactSortedParts", spec := "fnExactSortedParts", inPlace := ["internal/bytealg.abigen_runtime_cmpstring"], unfollowed := true, recurses := true, apart := false }
def FnExactSortedPartsSaid : Prop := fnExactSortedPartsRow.holds Try.pinned (OpenSpec.ofChange fnExactSortedPartsSpec)

/-- ITS FALSE NEIGHBOUR: 'it returns false'. Refute it at one input. -/
def fnExactSortedPartsWrong : ChangeSpec := { name := "fnExactSortedParts", fn := fun _ => fun
  | [d] => { results := [.lit (.bool false)], args := [d] }
  | _ => none }
def FnExactSortedPartsWrongFalsely : Prop := fnExactSortedPartsRow.holds Try.pinned (OpenSpec.ofChange fnExactSortedPartsWrong)

/-- 'laws.FnExactLabelText': WHATEVER THE INPUT: true; the input reads as it did. -/
def fnExactLabelTextSpec : ChangeSpec := { name := "fnExactLabelText", fn := fun _ => fun
  | [d] => { results := [.lit (.bool true)], args := [d] }
  | _ => none }
def fnExactLabelTextRow : OpenClaim := { program := "ytjabgjlkemfofaa", sum := "67c209b712b97f91ac1dd79a8ae824b4f33739d36b890937fd25157f5bf569f4", func := "loop.example/g03310/laws.FnExactLabelText", spec := "fnExactLabelText", inPlace := ["internal/bytealg.abigen_runtime_cmpstring", "internal/abi.NoEscape", "internal/bytealg.MakeNoZero"], unfollowed := true, recurses := true, apart := false }
def FnExactLabelTextSaid : Prop := fnExactLabelTextRow.holds Try.pinned (OpenSpec.ofChange fnExactLabelTextSpec)

/-- ITS FALSE NEIGHBOUR: 'it returns false'. Refute it at one input. -/
def fnExactLabelTextWrong : ChangeSpec := { name := "fnExactLabelText", fn := fun _ => fun
  | [d] => { results := [.lit (.bool false)], args := [d] }
  | _ => none }
def FnExactLabelTextWrongFalsely : Prop := fnExactLabelTextRow.holds Try.pinned (OpenSpec.ofChange fnExactLabelTextWrong)

/-- 'laws.FnExactMustName': WHATEVER THE INPUT: true; the input reads as it did. -/
def fnExactMustNameSpec : ChangeSpec := { name := "fnExactMustName", fn := fun _ => fun
  | [d1, d2] => { results := [.lit (.bool true)], args := [d1, d2] }
  | _ => none }
def fnExactMustNameRow : OpenClaim := { program := "ytjabgjlkemfofaa", sum := "67c209b712b97f91ac1dd79a8ae824b4f33739d36b890937fd25157f5bf569f4", func := "loop.example/g03310/laws.FnExactMustName", spec := "fnExactMustName", inPlace := ["internal/bytealg.abigen_runtime_cmpstring"], unfollowed := true, recurses := true, apart := false }
def FnExactMustNameSaid : Prop := fnExactMustNameRow.holds Try.pinned (OpenSpec.ofChange fnExactMustNameSpec)

/-- ITS FALSE NEIGHBOUR: 'it returns false'. Refute it at one input. -/
def fnExactMustNameWrong : ChangeSpec := { name := "fnExactMustName", fn := fun _ => fun
  | [d1, d2] => { results := [.lit (.bool false)], args := [d1, d2] }
  | _ => none }
def FnExactMustNameWrongFalsely : Prop := fnExactMustNameRow.holds Try.pinned (OpenSpec.ofChange fnExactMustNameWrong)

/- THE SECOND FORM. 'bulk': how many values and letters a reading holds, each counted each time it is reached (what is shared counts as often as it is met; a slice's spare places count too). A statement '..UptoSaid' is the law's where the arguments, and the package variables that the reading takes, are together of bulk at most 1048576: NARROWER than '..Said'. Prove '..Said' where nothing that the law and all that it calls make is longer than what came in: it says more and counts as full. Else prove '..UptoSaid'. A law counts once. -/
mutual
def uptoBulk {H : Type} : DataW H → Nat
  | .lit (.string bytes) => bytes.length + 1
  | .lit _ => 1
  | .nil => 1
  | .ptr d => uptoBulk d + 1
  | .slice elems spare => uptoBulkAll elems + uptoBulkAll spare + 1
  | .agg parts => uptoBulkAll parts + 1
  | .iface _ d => uptoBulk d + 1
  | .map entries => uptoBulkEntries entries + 1
  | .held _ => 1
def uptoBulkAll {H : Type} : List (DataW H) → Nat
  | [] => 0
  | d :: r => uptoBulk d + uptoBulkAll r
def uptoBulkEntries {H : Type} : List (Lit × DataW H) → Nat
  | [] => 0
  | x :: r => uptoBulkEntry x + uptoBulkEntries r
def uptoBulkEntry {H : Type} : Lit × DataW H → Nat
  | (.string bytes, d) => bytes.length + uptoBulk d + 1
  | (_, d) => uptoBulk d + 1
 end
def uptoSmall : (H : Type) → List (DataW H) → Bool := fun _ ds => decide (uptoBulkAll ds ≤ 1048576)
def OpenSpec.upto (s : _root_.Go.ChangeSpec) : _root_.Go.OpenSpec := { _root_.Go.OpenSpec.ofChange s with cond := some uptoSmall }

/-- 'laws.FnExactPartsOk', WHERE WHAT IT READS IS OF BULK AT MOST 1048576: true; the input reads as it did. -/
def fnExactPartsOkUptoRow : OpenClaim := { program := "ytjabgjlkemfofaa", sum := "67c209b712b97f91ac1dd79a8ae824b4f33739d36b890937fd25157f5bf569f4", func := "loop.example/g03310/laws.FnExactPartsOk", spec := "fnExactPartsOk", unfollowed := true, recurses := true, apart := false, narrowed := true }
def FnExactPartsOkUptoSaid : Prop := fnExactPartsOkUptoRow.holds Try.pinned (OpenSpec.upto fnExactPartsOkSpec)

/-- 'laws.FnExactSortedParts', WHERE WHAT IT READS IS OF BULK AT MOST 1048576: true; the input reads as it did. -/
def fnExactSortedPartsUptoRow : OpenClaim := { program := "ytjabgjlkemfofaa", sum := "67c209b712b97f91ac1dd79a8ae824b4f33739d36b890937fd25157f5bf569f4", func := "loop.example/g03310/laws.FnExactSortedParts", spec := "fnExactSortedParts", inPlace := ["internal/bytealg.abigen_runtime_cmpstring"], unfollowed := true, recurses := true, apart := false, narrowed := true }
def FnExactSortedPartsUptoSaid : Prop := fnExactSortedPartsUptoRow.holds Try.pinned (OpenSpec.upto fnExactSortedPartsSpec)

/-- 'laws.FnExactLabelText', WHERE WHAT IT READS IS OF BULK AT MOST 1048576: true; the input reads as it did. -/
def fnExactLabelTextUptoRow : OpenClaim := { program := "ytjabgjlkemfofaa", sum := "67c209b712b97f91ac1dd79a8ae824b4f33739d36b890937fd25157f5bf569f4", func := "loop.example/g03310/laws.FnExactLabelText", spec := "fnExactLabelText", inPlace := ["internal/bytealg.abigen_runtime_cmpstring", "internal/abi.NoEscape", "internal/bytealg.MakeNoZero"], unfollowed := true, recurses := true, apart := false, narrowed := true }
def FnExactLabelTextUptoSaid : Prop := fnExactLabelTextUptoRow.holds Try.pinned (OpenSpec.upto fnExactLabelTextSpec)

/-- 'laws.FnExactMustName', WHERE WHAT IT READS IS OF BULK AT MOST 1048576: true; the input reads as it did. -/
def fnExactMustNameUptoRow : OpenClaim := { program := "ytjabgjlkemfofaa", sum := "67c209b712b97f91ac1dd79a8ae824b4f33739d36b890937fd25157f5bf569f4", func := "loop.example/g03310/laws.FnExactMustName", spec := "fnExactMustName", inPlace := ["internal/bytealg.abigen_runtime_cmpstring"], unfollowed := true, recurses := true, apart := false, narrowed := true }
def FnExactMustNameUptoSaid : Prop := fnExactMustNameUptoRow.holds Try.pinned (OpenSpec.upto fnExactMustNameSpec)

end Rows
end Go.Proofs.Ytjabgjlkemfofaa
