/-
  No cell of these rows narrows 'for every input' (looked for: loops, veiled, ifaces, maps, wideKeys, modest, calm, conditions, laid).
  DERIVED. THE GIVEN ROWS OF THIS SEAT. 6 by the template 'for every input the law returns true; each argument reads behind the call as it read before'; 0 by the template 'total and deterministic' (their statements: YtgibgapbbnbekaaTotals.lean).
  GIVEN WITH THE SEED: the statements are not yours to turn. If you find one false, say at which input.
  Laid BY PROGRAM, IN A SANDBOX (cutbox-rows.mjs): the forced cells as the released guide's own fill.sh prints them over the translation 7c55731a3b9eb980… (all of the seat's roots in one cut). By AI agents, Wed Nov 11 2026. No macro, syntax, notation, axiom, sorry.
-/
import Derived.Test.YtgibgapbbnbekaaChecked
import GoSem.Claim
import GoSem.ClaimJoined
import GoSem.ClaimMapViews
import Derived.JoinedTies
import Derived.KernelRfl
namespace Go.Proofs.Ytgibgapbbnbekaa
/- THE CELL 'sum', in the pinned program and in every row, IS THE sha256 OF THE DUMP (.gsa) THAT YtgibgapbbnbekaaProg.lean LOADS. Nothing in Lean hashes anything: it is a label: what it is worth is what the hold of that sum in a sandbox is worth. -/
noncomputable def Try.pinned : Pinned := { name := "ytgibgapbbnbekaa", sum := "7c55731a3b9eb980ccd99f8d12caf0967712c668b60a49abcceda454d69e42b3", checked := Try.checked }
namespace Rows
def none {H : Type} : Left H := { results := [], args := [] }

/-- 'laws.FnExactFrozenOk': WHATEVER THE INPUT: true; the input reads as it did. -/
def fnExactFrozenOkSpec : ChangeSpec := { name := "fnExactFrozenOk", fn := fun _ => fun
  | [d] => { results := [.lit (.bool true)], args := [d] }
  | _ => none }
def fnExactFrozenOkRow : OpenClaim := { program := "ytgibgapbbnbekaa", sum := "7c55731a3b9eb980ccd99f8d12caf0967712c668b60a49abcceda454d69e42b3", func := "loop.example/g03310/laws.FnExactFrozenOk", spec := "fnExactFrozenOk", apart := false }
def FnExactFrozenOkSaid : Prop := fnExactFrozenOkRow.holds Try.pinned (OpenSpec.ofChange fnExactFrozenOkSpec)

/-- ITS FALSE NEIGHBOUR: 'it returns false'. Refute it at one input. -/
def fnExactFrozenOkWrong : ChangeSpec := { name := "fnExactFrozenOk", fn := fun _ => fun
  | [d] => { results := [.lit (.bool false)], args := [d] }
  | _ => none }
def FnExactFrozenOkWrongFalsely : Prop := fnExactFrozenOkRow.holds Try.pinned (OpenSpec.ofChange fnExactFrozenOkWrong)

/-- 'laws.FnExactIsGood': WHATEVER THE INPUT: true; the input reads as it did. -/
def fnExactIsGoodSpec : ChangeSpec := { name := "fnExactIsGood", fn := fun _ => fun
  | [d1, d2, d3] => { results := [.lit (.bool true)], args := [d1, d2, d3] }
  | _ => none }
def fnExactIsGoodRow : OpenClaim := { program := "ytgibgapbbnbekaa", sum := "7c55731a3b9eb980ccd99f8d12caf0967712c668b60a49abcceda454d69e42b3", func := "loop.example/g03310/laws.FnExactIsGood", spec := "fnExactIsGood", apart := false }
def FnExactIsGoodSaid : Prop := fnExactIsGoodRow.holds Try.pinned (OpenSpec.ofChange fnExactIsGoodSpec)

/-- ITS FALSE NEIGHBOUR: 'it returns false'. Refute it at one input. -/
def fnExactIsGoodWrong : ChangeSpec := { name := "fnExactIsGood", fn := fun _ => fun
  | [d1, d2, d3] => { results := [.lit (.bool false)], args := [d1, d2, d3] }
  | _ => none }
def FnExactIsGoodWrongFalsely : Prop := fnExactIsGoodRow.holds Try.pinned (OpenSpec.ofChange fnExactIsGoodWrong)

/-- 'laws.FnExactOutAt': WHATEVER THE INPUT: true; the input reads as it did. -/
def fnExactOutAtSpec : ChangeSpec := { name := "fnExactOutAt", fn := fun _ => fun
  | [d1, d2] => { results := [.lit (.bool true)], args := [d1, d2] }
  | _ => none }
def fnExactOutAtRow : OpenClaim := { program := "ytgibgapbbnbekaa", sum := "7c55731a3b9eb980ccd99f8d12caf0967712c668b60a49abcceda454d69e42b3", func := "loop.example/g03310/laws.FnExactOutAt", spec := "fnExactOutAt", apart := false }
def FnExactOutAtSaid : Prop := fnExactOutAtRow.holds Try.pinned (OpenSpec.ofChange fnExactOutAtSpec)

/-- ITS FALSE NEIGHBOUR: 'it returns false'. Refute it at one input. -/
def fnExactOutAtWrong : ChangeSpec := { name := "fnExactOutAt", fn := fun _ => fun
  | [d1, d2] => { results := [.lit (.bool false)], args := [d1, d2] }
  | _ => none }
def FnExactOutAtWrongFalsely : Prop := fnExactOutAtRow.holds Try.pinned (OpenSpec.ofChange fnExactOutAtWrong)

/-- 'laws.FnExactOneTime': WHATEVER THE INPUT: true; the input reads as it did. -/
def fnExactOneTimeSpec : ChangeSpec := { name := "fnExactOneTime", fn := fun _ => fun
  | [d1, d2] => { results := [.lit (.bool true)], args := [d1, d2] }
  | _ => none }
def fnExactOneTimeRow : OpenClaim := { program := "ytgibgapbbnbekaa", sum := "7c55731a3b9eb980ccd99f8d12caf0967712c668b60a49abcceda454d69e42b3", func := "loop.example/g03310/laws.FnExactOneTime", spec := "fnExactOneTime", apart := false }
def FnExactOneTimeSaid : Prop := fnExactOneTimeRow.holds Try.pinned (OpenSpec.ofChange fnExactOneTimeSpec)

/-- ITS FALSE NEIGHBOUR: 'it returns false'. Refute it at one input. -/
def fnExactOneTimeWrong : ChangeSpec := { name := "fnExactOneTime", fn := fun _ => fun
  | [d1, d2] => { results := [.lit (.bool false)], args := [d1, d2] }
  | _ => none }
def FnExactOneTimeWrongFalsely : Prop := fnExactOneTimeRow.holds Try.pinned (OpenSpec.ofChange fnExactOneTimeWrong)

/-- 'laws.FnThaws': WHATEVER THE INPUT: true; the input reads as it did. -/
def fnThawsSpec : ChangeSpec := { name := "fnThaws", fn := fun _ => fun
  | [d] => { results := [.lit (.bool true)], args := [d] }
  | _ => none }
def fnThawsRow : OpenClaim := { program := "ytgibgapbbnbekaa", sum := "7c55731a3b9eb980ccd99f8d12caf0967712c668b60a49abcceda454d69e42b3", func := "loop.example/g03310/laws.FnThaws", spec := "fnThaws", unfollowed := true, recurses := true, apart := false }
def FnThawsSaid : Prop := fnThawsRow.holds Try.pinned (OpenSpec.ofChange fnThawsSpec)

/-- ITS FALSE NEIGHBOUR: 'it returns false'. Refute it at one input. -/
def fnThawsWrong : ChangeSpec := { name := "fnThaws", fn := fun _ => fun
  | [d] => { results := [.lit (.bool false)], args := [d] }
  | _ => none }
def FnThawsWrongFalsely : Prop := fnThawsRow.holds Try.pinned (OpenSpec.ofChange fnThawsWrong)

/-- 'laws.FnExactFewestTimes': WHATEVER THE INPUT: true; the input reads as it did. -/
def fnExactFewestTimesSpec : ChangeSpec := { name := "fnExactFewestTimes", fn := fun _ => fun
  | [d1, d2] => { results := [.lit (.bool true)], args := [d1, d2] }
  | _ => none }
def fnExactFewestTimesRow : OpenClaim := { program := "ytgibgapbbnbekaa", sum := "7c55731a3b9eb980ccd99f8d12caf0967712c668b60a49abcceda454d69e42b3", func := "loop.example/g03310/laws.FnExactFewestTimes", spec := "fnExactFewestTimes", unfollowed := true, recurses := true, apart := false }
def FnExactFewestTimesSaid : Prop := fnExactFewestTimesRow.holds Try.pinned (OpenSpec.ofChange fnExactFewestTimesSpec)

/-- ITS FALSE NEIGHBOUR: 'it returns false'. Refute it at one input. -/
def fnExactFewestTimesWrong : ChangeSpec := { name := "fnExactFewestTimes", fn := fun _ => fun
  | [d1, d2] => { results := [.lit (.bool false)], args := [d1, d2] }
  | _ => none }
def FnExactFewestTimesWrongFalsely : Prop := fnExactFewestTimesRow.holds Try.pinned (OpenSpec.ofChange fnExactFewestTimesWrong)

/- THE SECOND FORM. 'bulk': how many values and letters a reading holds, each counted each time it is reached (what is shared counts as often as it is met; a slice's spare places count too). A statement '..UptoSaid' is the law's where the arguments, and the package variables that the reading takes, are together of bulk at most 1048576: NARROWER than '..Said'. Prove '..Said' where nothing that the law and all that it calls make is longer than what came in: it says more and counts as full. Else prove '..UptoSaid'. A law counts once. -/
mutual
def uptoBulk {H : Type} : DataW H → Nat
  | .lit (.string bytes) => bytes.length + 1
  | .lit _ => 1
  | .nil => 1
  | .ptr d => uptoBulk d + 1
  | .slice elems spare => uptoBulkAll elems + uptoBulkAll spare + 1
  | .agg parts => uptoBulkAll parts + 1
  | .iface _ d => uptoBulk d + 1
  | .map entries => uptoBulkEntries entries + 1
  | .held _ => 1
def uptoBulkAll {H : Type} : List (DataW H) → Nat
  | [] => 0
  | d :: r => uptoBulk d + uptoBulkAll r
def uptoBulkEntries {H : Type} : List (Lit × DataW H) → Nat
  | [] => 0
  | x :: r => uptoBulkEntry x + uptoBulkEntries r
def uptoBulkEntry {H : Type} : Lit × DataW H → Nat
  | (.string bytes, d) => bytes.length + uptoBulk d + 1
  | (_, d) => uptoBulk d + 1
 end
def uptoSmall : (H : Type) → List (DataW H) → Bool := fun _ ds => decide (uptoBulkAll ds ≤ 1048576)
def OpenSpec.upto (s : _root_.Go.ChangeSpec) : _root_.Go.OpenSpec := { _root_.Go.OpenSpec.ofChange s with cond := some uptoSmall }

/-- 'laws.FnExactFrozenOk', WHERE WHAT IT READS IS OF BULK AT MOST 1048576: true; the input reads as it did. -/
def fnExactFrozenOkUptoRow : OpenClaim := { program := "ytgibgapbbnbekaa", sum := "7c55731a3b9eb980ccd99f8d12caf0967712c668b60a49abcceda454d69e42b3", func := "loop.example/g03310/laws.FnExactFrozenOk", spec := "fnExactFrozenOk", apart := false, narrowed := true }
def FnExactFrozenOkUptoSaid : Prop := fnExactFrozenOkUptoRow.holds Try.pinned (OpenSpec.upto fnExactFrozenOkSpec)

/-- 'laws.FnExactIsGood', WHERE WHAT IT READS IS OF BULK AT MOST 1048576: true; the input reads as it did. -/
def fnExactIsGoodUptoRow : OpenClaim := { program := "ytgibgapbbnbekaa", sum := "7c55731a3b9eb980ccd99f8d12caf0967712c668b60a49abcceda454d69e42b3", func := "loop.example/g03310/laws.FnExactIsGood", spec := "fnExactIsGood", apart := false, narrowed := true }
def FnExactIsGoodUptoSaid : Prop := fnExactIsGoodUptoRow.holds Try.pinned (OpenSpec.upto fnExactIsGoodSpec)

/-- 'laws.FnExactOutAt', WHERE WHAT IT READS IS OF BULK AT MOST 1048576: true; the input reads as it did. -/
def fnExactOutAtUptoRow : OpenClaim := { program := "ytgibgapbbnbekaa", sum := "7c55731a3b9eb980ccd99f8d12caf0967712c668b60a49abcceda454d69e42b3", func := "loop.example/g03310/laws.FnExactOutAt", spec := "fnExactOutAt", apart := false, narrowed := true }
def FnExactOutAtUptoSaid : Prop := fnExactOutAtUptoRow.holds Try.pinned (OpenSpec.upto fnExactOutAtSpec)

/-- 'laws.FnExactOneTime', WHERE WHAT IT READS IS OF BULK AT MOST 1048576: true; the input reads as it did. -/
def fnExactOneTimeUptoRow : OpenClaim := { program := "ytgibgapbbnbekaa", sum := "7c55731a3b9eb980ccd99f8d12caf0967712c668b60a49abcceda454d69e42b3", func := "loop.example/g03310/laws.FnExactOneTime", spec := "fnExactOneTime", apart := false, narrowed := true }
def FnExactOneTimeUptoSaid : Prop := fnExactOneTimeUptoRow.holds Try.pinned (OpenSpec.upto fnExactOneTimeSpec)

/-- 'laws.FnThaws', WHERE WHAT IT READS IS OF BULK AT MOST 1048576: true; the input reads as it did. -/
def fnThawsUptoRow : OpenClaim := { program := "ytgibgapbbnbekaa", sum := "7c55731a3b9eb980ccd99f8d12caf0967712c668b60a49abcceda454d69e42b3", func := "loop.example/g03310/laws.FnThaws", spec := "fnThaws", unfollowed := true, recurses := true, apart := false, narrowed := true }
def FnThawsUptoSaid : Prop := fnThawsUptoRow.holds Try.pinned (OpenSpec.upto fnThawsSpec)

/-- 'laws.FnExactFewestTimes', WHERE WHAT IT READS IS OF BULK AT MOST 1048576: true; the input reads as it did. -/
def fnExactFewestTimesUptoRow : OpenClaim := { program := "ytgibgapbbnbekaa", sum := "7c55731a3b9eb980ccd99f8d12caf0967712c668b60a49abcceda454d69e42b3", func := "loop.example/g03310/laws.FnExactFewestTimes", spec := "fnExactFewestTimes", unfollowed := true, recurses := true, apart := false, narrowed := true }
def FnExactFewestTimesUptoSaid : Prop := fnExactFewestTimesUptoRow.holds Try.pinned (OpenSpec.upto fnExactFewestTimesSpec)

end Rows
end Go.Proofs.Ytgibgapbbnbekaa
