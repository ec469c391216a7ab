/-
  No cell of these rows narrows 'for every input' (looked for: loops, veiled, ifaces, maps, wideKeys, modest, calm, conditions, laid).
  DERIVED. THE GIVEN ROWS OF THIS SEAT. 6 by the template 'for every input the law returns true; each argument reads behind the call as it read before'; 0 by the template 'total and deterministic' (their statements: YtfalckmlbiiedaaTotals.lean).
  GIVEN WITH THE SEED: the statements are not yours to turn. If you find one false, say at which input.
  Laid BY PROGRAM, IN A SANDBOX (cutbox-rows.mjs): the forced cells as the released guide's own fill.sh prints them over the translation dfb5b265662be8ee… (all of the seat's roots in one cut). By AI agents, Wed Nov 11 2026. No macro, syntax, notation, axiom, sorry.
-/
import Derived.Test.YtfalckmlbiiedaaChecked
import GoSem.Claim
import GoSem.ClaimJoined
import GoSem.ClaimMapViews
import Derived.JoinedTies
import Derived.KernelRfl
namespace Go.Proofs.Ytfalckmlbiiedaa
/- THE CELL 'sum', in the pinned program and in every row, IS THE sha256 OF THE DUMP (.gsa) THAT YtfalckmlbiiedaaProg.lean LOADS. Nothing in Lean hashes anything: it is a label: what it is worth is what the hold of that sum in a sandbox is worth. -/
noncomputable def Try.pinned : Pinned := { name := "ytfalckmlbiiedaa", sum := "dfb5b265662be8eec3f46904b9ed00ee51247eac7de395487b39dff2f5547065", checked := Try.checked }
namespace Rows
def none {H : Type} : Left H := { results := [], args := [] }

/-- 'laws.FnCakes': WHATEVER THE INPUT: true; the input reads as it did. -/
def fnCakesSpec : ChangeSpec := { name := "fnCakes", fn := fun _ => fun
  | [d] => { results := [.lit (.bool true)], args := [d] }
  | _ => none }
def fnCakesRow : OpenClaim := { program := "ytfalckmlbiiedaa", sum := "dfb5b265662be8eec3f46904b9ed00ee51247eac7de395487b39dff2f5547065", func := "loop.example/g03310/laws.FnCakes", spec := "fnCakes", unfollowed := true, recurses := true, apart := false }
def FnCakesSaid : Prop := fnCakesRow.holds Try.pinned (OpenSpec.ofChange fnCakesSpec)

/-- ITS FALSE NEIGHBOUR: 'it returns false'. Refute it at one input. -/
def fnCakesWrong : ChangeSpec := { name := "fnCakes", fn := fun _ => fun
  | [d] => { results := [.lit (.bool false)], args := [d] }
  | _ => none }
def FnCakesWrongFalsely : Prop := fnCakesRow.holds Try.pinned (OpenSpec.ofChange fnCakesWrong)

/-- 'laws.FnExactCakeOk': WHATEVER THE INPUT: true; the input reads as it did. -/
def fnExactCakeOkSpec : ChangeSpec := { name := "fnExactCakeOk", fn := fun _ => fun
  | [d] => { results := [.lit (.bool true)], args := [d] }
  | _ => none }
def fnExactCakeOkRow : OpenClaim := { program := "ytfalckmlbiiedaa", sum := "dfb5b265662be8eec3f46904b9ed00ee51247eac7de395487b39dff2f5547065", func := "loop.example/g03310/laws.FnExactCakeOk", spec := "fnExactCakeOk", unfollowed := true, recurses := true, apart := false }
def FnExactCakeOkSaid : Prop := fnExactCakeOkRow.holds Try.pinned (OpenSpec.ofChange fnExactCakeOkSpec)

/-- ITS FALSE NEIGHBOUR: 'it returns false'. Refute it at one input. -/
def fnExactCakeOkWrong : ChangeSpec := { name := "fnExactCakeOk", fn := fun _ => fun
  | [d] => { results := [.lit (.bool false)], args := [d] }
  | _ => none }
def FnExactCakeOkWrongFalsely : Prop := fnExactCakeOkRow.holds Try.pinned (OpenSpec.ofChange fnExactCakeOkWrong)

/-- 'laws.FnExactHalfCut': WHATEVER THE INPUT: true; the input reads as it did. -/
def fnExactHalfCutSpec : ChangeSpec := { name := "fnExactHalfCut", fn := fun _ => fun
  | [d] => { results := [.lit (.bool true)], args := [d] }
  | _ => none }
def fnExactHalfCutRow : OpenClaim := { program := "ytfalckmlbiiedaa", sum := "dfb5b265662be8eec3f46904b9ed00ee51247eac7de395487b39dff2f5547065", func := "loop.example/g03310/laws.FnExactHalfCut", spec := "fnExactHalfCut", unfollowed := true, recurses := true, apart := false }
def FnExactHalfCutSaid : Prop := fnExactHalfCutRow.holds Try.pinned (OpenSpec.ofChange fnExactHalfCutSpec)

/-- ITS FALSE NEIGHBOUR: 'it returns false'. Refute it at one input. -/
def fnExactHalfCutWrong : ChangeSpec := { name := "fnExactHalfCut", fn := fun _ => fun
  | [d] => { results := [.lit (.bool false)], args := [d] }
  | _ => none }
def FnExactHalfCutWrongFalsely : Prop := fnExactHalfCutRow.holds Try.pinned (OpenSpec.ofChange fnExactHalfCutWrong)

/-- 'laws.FnExactBestShares': WHATEVER THE INPUT: true; the input reads as it did. -/
def fnExactBestSharesSpec : ChangeSpec := { name := "fnExactBestShares", fn := fun _ => fun
  | [d1, d2] => { results := [.lit (.bool true)], args := [d1, d2] }
  | _ => none }
def fnExactBestSharesRow : OpenClaim := { program := "ytfalckmlbiiedaa", sum := "dfb5b265662be8eec3f46904b9ed00ee51247eac7de395487b39dff2f5547065", func := "loop.example/g03310/laws.FnExactBestShares", spec := "fnExactBestShares", unfollowed := true, recurses := true, apart := false }
def FnExactBestSharesSaid : Prop := fnExactBestSharesRow.holds Try.pinned (OpenSpec.ofChange fnExactBestSharesSpec)

/-- ITS FALSE NEIGHBOUR: 'it returns false'. Refute it at one input. -/
def fnExactBestSharesWrong : ChangeSpec := { name := "fnExactBestShares", fn := fun _ => fun
  | [d1, d2] => { results := [.lit (.bool false)], args := [d1, d2] }
  | _ => none }
def FnExactBestSharesWrongFalsely : Prop := fnExactBestSharesRow.holds Try.pinned (OpenSpec.ofChange fnExactBestSharesWrong)

/-- 'laws.FnExactChooser': WHATEVER THE INPUT: true; the input reads as it did. -/
def fnExactChooserSpec : ChangeSpec := { name := "fnExactChooser", fn := fun _ => fun
  | [d1, d2] => { results := [.lit (.bool true)], args := [d1, d2] }
  | _ => none }
def fnExactChooserRow : OpenClaim := { program := "ytfalckmlbiiedaa", sum := "dfb5b265662be8eec3f46904b9ed00ee51247eac7de395487b39dff2f5547065", func := "loop.example/g03310/laws.FnExactChooser", spec := "fnExactChooser", unfollowed := true, recurses := true, apart := false }
def FnExactChooserSaid : Prop := fnExactChooserRow.holds Try.pinned (OpenSpec.ofChange fnExactChooserSpec)

/-- ITS FALSE NEIGHBOUR: 'it returns false'. Refute it at one input. -/
def fnExactChooserWrong : ChangeSpec := { name := "fnExactChooser", fn := fun _ => fun
  | [d1, d2] => { results := [.lit (.bool false)], args := [d1, d2] }
  | _ => none }
def FnExactChooserWrongFalsely : Prop := fnExactChooserRow.holds Try.pinned (OpenSpec.ofChange fnExactChooserWrong)

/-- 'laws.FnExactShares': WHATEVER THE INPUT: true; the input reads as it did. -/
def fnExactSharesSpec : ChangeSpec := { name := "fnExactShares", fn := fun _ => fun
  | [d1, d2] => { results := [.lit (.bool true)], args := [d1, d2] }
  | _ => none }
def fnExactSharesRow : OpenClaim := { program := "ytfalckmlbiiedaa", sum := "dfb5b265662be8eec3f46904b9ed00ee51247eac7de395487b39dff2f5547065", func := "loop.example/g03310/laws.FnExactShares", spec := "fnExactShares", unfollowed := true, recurses := true, apart := false }
def FnExactSharesSaid : Prop := fnExactSharesRow.holds Try.pinned (OpenSpec.ofChange fnExactSharesSpec)

/-- ITS FALSE NEIGHBOUR: 'it returns false'. Refute it at one input. -/
def fnExactSharesWrong : ChangeSpec := { name := "fnExactShares", fn := fun _ => fun
  | [d1, d2] => { results := [.lit (.bool false)], args := [d1, d2] }
  | _ => none }
def FnExactSharesWrongFalsely : Prop := fnExactSharesRow.holds Try.pinned (OpenSpec.ofChange fnExactSharesWrong)

/- THE SECOND FORM. 'bulk': how many values and letters a reading holds, each counted each time it is reached (what is shared counts as often as it is met; a slice's spare places count too). A statement '..UptoSaid' is the law's where the arguments, and the package variables that the reading takes, are together of bulk at most 1048576: NARROWER than '..Said'. Prove '..Said' where nothing that the law and all that it calls make is longer than what came in: it says more and counts as full. Else prove '..UptoSaid'. A law counts once. -/
mutual
def uptoBulk {H : Type} : DataW H → Nat
  | .lit (.string bytes) => bytes.length + 1
  | .lit _ => 1
  | .nil => 1
  | .ptr d => uptoBulk d + 1
  | .slice elems spare => uptoBulkAll elems + uptoBulkAll spare + 1
  | .agg parts => uptoBulkAll parts + 1
  | .iface _ d => uptoBulk d + 1
  | .map entries => uptoBulkEntries entries + 1
  | .held _ => 1
def uptoBulkAll {H : Type} : List (DataW H) → Nat
  | [] => 0
  | d :: r => uptoBulk d + uptoBulkAll r
def uptoBulkEntries {H : Type} : List (Lit × DataW H) → Nat
  | [] => 0
  | x :: r => uptoBulkEntry x + uptoBulkEntries r
def uptoBulkEntry {H : Type} : Lit × DataW H → Nat
  | (.string bytes, d) => bytes.length + uptoBulk d + 1
  | (_, d) => uptoBulk d + 1
 end
def uptoSmall : (H : Type) → List (DataW H) → Bool := fun _ ds => decide (uptoBulkAll ds ≤ 1048576)
def OpenSpec.upto (s : _root_.Go.ChangeSpec) : _root_.Go.OpenSpec := { _root_.Go.OpenSpec.ofChange s with cond := some uptoSmall }

/-- 'laws.FnCakes', WHERE WHAT IT READS IS OF BULK AT MOST 1048576: true; the input reads as it did. -/
def fnCakesUptoRow : OpenClaim := { program := "ytfalckmlbiiedaa", sum := "dfb5b265662be8eec3f46904b9ed00ee51247eac7de395487b39dff2f5547065", func := "loop.example/g03310/laws.FnCakes", spec := "fnCakes", unfollowed := true, recurses := true, apart := false, narrowed := true }
def FnCakesUptoSaid : Prop := fnCakesUptoRow.holds Try.pinned (OpenSpec.upto fnCakesSpec)

/-- 'laws.FnExactCakeOk', WHERE WHAT IT READS IS OF BULK AT MOST 1048576: true; the input reads as it did. -/
def fnExactCakeOkUptoRow : OpenClaim := { program := "ytfalckmlbiiedaa", sum := "dfb5b265662be8eec3f46904b9ed00ee51247eac7de395487b39dff2f5547065", func := "loop.example/g03310/laws.FnExactCakeOk", spec := "fnExactCakeOk", unfollowed := true, recurses := true, apart := false, narrowed := true }
def FnExactCakeOkUptoSaid : Prop := fnExactCakeOkUptoRow.holds Try.pinned (OpenSpec.upto fnExactCakeOkSpec)

/-- 'laws.FnExactHalfCut', WHERE WHAT IT READS IS OF BULK AT MOST 1048576: true; the input reads as it did. -/
def fnExactHalfCutUptoRow : OpenClaim := { program := "ytfalckmlbiiedaa", sum := "dfb5b265662be8eec3f46904b9ed00ee51247eac7de395487b39dff2f5547065", func := "loop.example/g03310/laws.FnExactHalfCut", spec := "fnExactHalfCut", unfollowed := true, recurses := true, apart := false, narrowed := true }
def FnExactHalfCutUptoSaid : Prop := fnExactHalfCutUptoRow.holds Try.pinned (OpenSpec.upto fnExactHalfCutSpec)

/-- 'laws.FnExactBestShares', WHERE WHAT IT READS IS OF BULK AT MOST 1048576: true; the input reads as it did. -/
def fnExactBestSharesUptoRow : OpenClaim := { program := "ytfalckmlbiiedaa", sum := "dfb5b265662be8eec3f46904b9ed00ee51247eac7de395487b39dff2f5547065", func := "loop.example/g03310/laws.FnExactBestShares", spec := "fnExactBestShares", unfollowed := true, recurses := true, apart := false, narrowed := true }
def FnExactBestSharesUptoSaid : Prop := fnExactBestSharesUptoRow.holds Try.pinned (OpenSpec.upto fnExactBestSharesSpec)

/-- 'laws.FnExactChooser', WHERE WHAT IT READS IS OF BULK AT MOST 1048576: true; the input reads as it did. -/
def fnExactChooserUptoRow : OpenClaim := { program := "ytfalckmlbiiedaa", sum := "dfb5b265662be8eec3f46904b9ed00ee51247eac7de395487b39dff2f5547065", func := "loop.example/g03310/laws.FnExactChooser", spec := "fnExactChooser", unfollowed := true, recurses := true, apart := false, narrowed := true }
def FnExactChooserUptoSaid : Prop := fnExactChooserUptoRow.holds Try.pinned (OpenSpec.upto fnExactChooserSpec)

/-- 'laws.FnExactShares', WHERE WHAT IT READS IS OF BULK AT MOST 1048576: true; the input reads as it did. -/
def fnExactSharesUptoRow : OpenClaim := { program := "ytfalckmlbiiedaa", sum := "dfb5b265662be8eec3f46904b9ed00ee51247eac7de395487b39dff2f5547065", func := "loop.example/g03310/laws.FnExactShares", spec := "fnExactShares", unfollowed := true, recurses := true, apart := false, narrowed := true }
def FnExactSharesUptoSaid : Prop := fnExactSharesUptoRow.holds Try.pinned (OpenSpec.upto fnExactSharesSpec)

end Rows
end Go.Proofs.Ytfalckmlbiiedaa
