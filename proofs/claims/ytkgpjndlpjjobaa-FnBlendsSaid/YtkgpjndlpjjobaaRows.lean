/-
  No cell of these rows narrows 'for every input' (looked for: loops, veiled, ifaces, maps, wideKeys, modest, calm, conditions, laid).
  DERIVED. THE GIVEN ROWS OF THIS SEAT. 6 by the template 'for every input the law returns true; each argument reads behind the call as it read before'; 0 by the template 'total and deterministic' (their statements: YtkgpjndlpjjobaaTotals.lean).
  GIVEN WITH THE SEED: the statements are not yours to turn. If you find one false, say at which input.
  Laid BY PROGRAM, IN A SANDBOX (cutbox-rows.mjs): the forced cells as the released guide's own fill.sh prints them over the translation 60cfc4c6cb96481e… (all of the seat's roots in one cut). By AI agents, Wed Nov 11 2026. No macro, syntax, notation, axiom, sorry.
-/
import Derived.Test.YtkgpjndlpjjobaaChecked
import GoSem.Claim
import GoSem.ClaimJoined
import GoSem.ClaimMapViews
import Derived.JoinedTies
import Derived.KernelRfl
namespace Go.Proofs.Ytkgpjndlpjjobaa
/- THE CELL 'sum', in the pinned program and in every row, IS THE sha256 OF THE DUMP (.gsa) THAT YtkgpjndlpjjobaaProg.lean LOADS. Nothing in Lean hashes anything: it is a label: what it is worth is what the hold of that sum in a sandbox is worth. -/
noncomputable def Try.pinned : Pinned := { name := "ytkgpjndlpjjobaa", sum := "60cfc4c6cb96481e0b96503e30ae808862397a48708f53471b9a9b7bfa5e8c60", checked := Try.checked }
namespace Rows
def none {H : Type} : Left H := { results := [], args := [] }

/-- 'laws.FnExactFloursOk': WHATEVER THE INPUT: true; the input reads as it did. -/
def fnExactFloursOkSpec : ChangeSpec := { name := "fnExactFloursOk", fn := fun _ => fun
  | [d] => { results := [.lit (.bool true)], args := [d] }
  | _ => none }
def fnExactFloursOkRow : OpenClaim := { program := "ytkgpjndlpjjobaa", sum := "60cfc4c6cb96481e0b96503e30ae808862397a48708f53471b9a9b7bfa5e8c60", func := "loop.example/g03310/laws.FnExactFloursOk", spec := "fnExactFloursOk", unfollowed := true, recurses := true, apart := false }
def FnExactFloursOkSaid : Prop := fnExactFloursOkRow.holds Try.pinned (OpenSpec.ofChange fnExactFloursOkSpec)

/-- ITS FALSE NEIGHBOUR: 'it returns false'. Refute it at one input. -/
def fnExactFloursOkWrong : ChangeSpec := { name := "fnExactFloursOk", fn := fun _ => fun
  | [d] => { results := [.lit (.bool false)], args := [d] }
  | _ => none }
def FnExactFloursOkWrongFalsely : Prop := fnExactFloursOkRow.holds Try.pinned (OpenSpec.ofChange fnExactFloursOkWrong)

/-- 'laws.FnExactBlendCost': WHATEVER THE INPUT: true; the input reads as it did. -/
def fnExactBlendCostSpec : ChangeSpec := { name := "fnExactBlendCost", fn := fun _ => fun
  | [d1, d2] => { results := [.lit (.bool true)], args := [d1, d2] }
  | _ => none }
def fnExactBlendCostRow : OpenClaim := { program := "ytkgpjndlpjjobaa", sum := "60cfc4c6cb96481e0b96503e30ae808862397a48708f53471b9a9b7bfa5e8c60", func := "loop.example/g03310/laws.FnExactBlendCost", spec := "fnExactBlendCost", unfollowed := true, recurses := true, apart := false }
def FnExactBlendCostSaid : Prop := fnExactBlendCostRow.holds Try.pinned (OpenSpec.ofChange fnExactBlendCostSpec)

/-- ITS FALSE NEIGHBOUR: 'it returns false'. Refute it at one input. -/
def fnExactBlendCostWrong : ChangeSpec := { name := "fnExactBlendCost", fn := fun _ => fun
  | [d1, d2] => { results := [.lit (.bool false)], args := [d1, d2] }
  | _ => none }
def FnExactBlendCostWrongFalsely : Prop := fnExactBlendCostRow.holds Try.pinned (OpenSpec.ofChange fnExactBlendCostWrong)

/-- 'laws.FnExactStrengthOf': WHATEVER THE INPUT: true; the input reads as it did. -/
def fnExactStrengthOfSpec : ChangeSpec := { name := "fnExactStrengthOf", fn := fun _ => fun
  | [d1, d2] => { results := [.lit (.bool true)], args := [d1, d2] }
  | _ => none }
def fnExactStrengthOfRow : OpenClaim := { program := "ytkgpjndlpjjobaa", sum := "60cfc4c6cb96481e0b96503e30ae808862397a48708f53471b9a9b7bfa5e8c60", func := "loop.example/g03310/laws.FnExactStrengthOf", spec := "fnExactStrengthOf", unfollowed := true, recurses := true, apart := false }
def FnExactStrengthOfSaid : Prop := fnExactStrengthOfRow.holds Try.pinned (OpenSpec.ofChange fnExactStrengthOfSpec)

/-- ITS FALSE NEIGHBOUR: 'it returns false'. Refute it at one input. -/
def fnExactStrengthOfWrong : ChangeSpec := { name := "fnExactStrengthOf", fn := fun _ => fun
  | [d1, d2] => { results := [.lit (.bool false)], args := [d1, d2] }
  | _ => none }
def FnExactStrengthOfWrongFalsely : Prop := fnExactStrengthOfRow.holds Try.pinned (OpenSpec.ofChange fnExactStrengthOfWrong)

/-- 'laws.FnExactCheapestTwo': WHATEVER THE INPUT: true; the input reads as it did. -/
def fnExactCheapestTwoSpec : ChangeSpec := { name := "fnExactCheapestTwo", fn := fun _ => fun
  | [d1, d2, d3] => { results := [.lit (.bool true)], args := [d1, d2, d3] }
  | _ => none }
def fnExactCheapestTwoRow : OpenClaim := { program := "ytkgpjndlpjjobaa", sum := "60cfc4c6cb96481e0b96503e30ae808862397a48708f53471b9a9b7bfa5e8c60", func := "loop.example/g03310/laws.FnExactCheapestTwo", spec := "fnExactCheapestTwo", unfollowed := true, recurses := true, apart := false }
def FnExactCheapestTwoSaid : Prop := fnExactCheapestTwoRow.holds Try.pinned (OpenSpec.ofChange fnExactCheapestTwoSpec)

/-- ITS FALSE NEIGHBOUR: 'it returns false'. Refute it at one input. -/
def fnExactCheapestTwoWrong : ChangeSpec := { name := "fnExactCheapestTwo", fn := fun _ => fun
  | [d1, d2, d3] => { results := [.lit (.bool false)], args := [d1, d2, d3] }
  | _ => none }
def FnExactCheapestTwoWrongFalsely : Prop := fnExactCheapestTwoRow.holds Try.pinned (OpenSpec.ofChange fnExactCheapestTwoWrong)

/-- 'laws.FnBlends': WHATEVER THE INPUT: true; the input reads as it did. -/
def fnBlendsSpec : ChangeSpec := { name := "fnBlends", fn := fun _ => fun
  | [d] => { results := [.lit (.bool true)], args := [d] }
  | _ => none }
def fnBlendsRow : OpenClaim := { program := "ytkgpjndlpjjobaa", sum := "60cfc4c6cb96481e0b96503e30ae808862397a48708f53471b9a9b7bfa5e8c60", func := "loop.example/g03310/laws.FnBlends", spec := "fnBlends", unfollowed := true, recurses := true, apart := false }
def FnBlendsSaid : Prop := fnBlendsRow.holds Try.pinned (OpenSpec.ofChange fnBlendsSpec)

/-- ITS FALSE NEIGHBOUR: 'it returns false'. Refute it at one input. -/
def fnBlendsWrong : ChangeSpec := { name := "fnBlends", fn := fun _ => fun
  | [d] => { results := [.lit (.bool false)], args := [d] }
  | _ => none }
def FnBlendsWrongFalsely : Prop := fnBlendsRow.holds Try.pinned (OpenSpec.ofChange fnBlendsWrong)

/-- 'laws.FnExactStrongestFor': WHATEVER THE INPUT: true; the input reads as it did. -/
def fnExactStrongestForSpec : ChangeSpec := { name := "fnExactStrongestFor", fn := fun _ => fun
  | [d1, d2] => { results := [.lit (.bool true)], args := [d1, d2] }
  | _ => none }
def fnExactStrongestForRow : OpenClaim := { program := "ytkgpjndlpjjobaa", sum := "60cfc4c6cb96481e0b96503e30ae808862397a48708f53471b9a9b7bfa5e8c60", func := "loop.example/g03310/laws.FnExactStrongestFor", spec := "fnExactStrongestFor", unfollowed := true, recurses := true, apart := false }
def FnExactStrongestForSaid : Prop := fnExactStrongestForRow.holds Try.pinned (OpenSpec.ofChange fnExactStrongestForSpec)

/-- ITS FALSE NEIGHBOUR: 'it returns false'. Refute it at one input. -/
def fnExactStrongestForWrong : ChangeSpec := { name := "fnExactStrongestFor", fn := fun _ => fun
  | [d1, d2] => { results := [.lit (.bool false)], args := [d1, d2] }
  | _ => none }
def FnExactStrongestForWrongFalsely : Prop := fnExactStrongestForRow.holds Try.pinned (OpenSpec.ofChange fnExactStrongestForWrong)

/- THE SECOND FORM. 'bulk': how many values and letters a reading holds, each counted each time it is reached (what is shared counts as often as it is met; a slice's spare places count too). A statement '..UptoSaid' is the law's where the arguments, and the package variables that the reading takes, are together of bulk at most 1048576: NARROWER than '..Said'. Prove '..Said' where nothing that the law and all that it calls make is longer than what came in: it says more and counts as full. Else prove '..UptoSaid'. A law counts once. -/
mutual
def uptoBulk {H : Type} : DataW H → Nat
  | .lit (.string bytes) => bytes.length + 1
  | .lit _ => 1
  | .nil => 1
  | .ptr d => uptoBulk d + 1
  | .slice elems spare => uptoBulkAll elems + uptoBulkAll spare + 1
  | .agg parts => uptoBulkAll parts + 1
  | .iface _ d => uptoBulk d + 1
  | .map entries => uptoBulkEntries entries + 1
  | .held _ => 1
def uptoBulkAll {H : Type} : List (DataW H) → Nat
  | [] => 0
  | d :: r => uptoBulk d + uptoBulkAll r
def uptoBulkEntries {H : Type} : List (Lit × DataW H) → Nat
  | [] => 0
  | x :: r => uptoBulkEntry x + uptoBulkEntries r
def uptoBulkEntry {H : Type} : Lit × DataW H → Nat
  | (.string bytes, d) => bytes.length + uptoBulk d + 1
  | (_, d) => uptoBulk d + 1
 end
def uptoSmall : (H : Type) → List (DataW H) → Bool := fun _ ds => decide (uptoBulkAll ds ≤ 1048576)
def OpenSpec.upto (s : _root_.Go.ChangeSpec) : _root_.Go.OpenSpec := { _root_.Go.OpenSpec.ofChange s with cond := some uptoSmall }

/-- 'laws.FnExactFloursOk', WHERE WHAT IT READS IS OF BULK AT MOST 1048576: true; the input reads as it did. -/
def fnExactFloursOkUptoRow : OpenClaim := { program := "ytkgpjndlpjjobaa", sum := "60cfc4c6cb96481e0b96503e30ae808862397a48708f53471b9a9b7bfa5e8c60", func := "loop.example/g03310/laws.FnExactFloursOk", spec := "fnExactFloursOk", unfollowed := true, recurses := true, apart := false, narrowed := true }
def FnExactFloursOkUptoSaid : Prop := fnExactFloursOkUptoRow.holds Try.pinned (OpenSpec.upto fnExactFloursOkSpec)

/-- 'laws.FnExactBlendCost', WHERE WHAT IT READS IS OF BULK AT MOST 1048576: true; the input reads as it did. -/
def fnExactBlendCostUptoRow : OpenClaim := { program := "ytkgpjndlpjjobaa", sum := "60cfc4c6cb96481e0b96503e30ae808862397a48708f53471b9a9b7bfa5e8c60", func := "loop.example/g03310/laws.FnExactBlendCost", spec := "fnExactBlendCost", unfollowed := true, recurses := true, apart := false, narrowed := true }
def FnExactBlendCostUptoSaid : Prop := fnExactBlendCostUptoRow.holds Try.pinned (OpenSpec.upto fnExactBlendCostSpec)

/-- 'laws.FnExactStrengthOf', WHERE WHAT IT READS IS OF BULK AT MOST 1048576: true; the input reads as it did. -/
def fnExactStrengthOfUptoRow : OpenClaim := { program := "ytkgpjndlpjjobaa", sum := "60cfc4c6cb96481e0b96503e30ae808862397a48708f53471b9a9b7bfa5e8c60", func := "loop.example/g03310/laws.FnExactStrengthOf", spec := "fnExactStrengthOf", unfollowed := true, recurses := true, apart := false, narrowed := true }
def FnExactStrengthOfUptoSaid : Prop := fnExactStrengthOfUptoRow.holds Try.pinned (OpenSpec.upto fnExactStrengthOfSpec)

/-- 'laws.FnExactCheapestTwo', WHERE WHAT IT READS IS OF BULK AT MOST 1048576: true; the input reads as it did. -/
def fnExactCheapestTwoUptoRow : OpenClaim := { program := "ytkgpjndlpjjobaa", sum := "60cfc4c6cb96481e0b96503e30ae808862397a48708f53471b9a9b7bfa5e8c60", func := "loop.example/g03310/laws.FnExactCheapestTwo", spec := "fnExactCheapestTwo", unfollowed := true, recurses := true, apart := false, narrowed := true }
def FnExactCheapestTwoUptoSaid : Prop := fnExactCheapestTwoUptoRow.holds Try.pinned (OpenSpec.upto fnExactCheapestTwoSpec)

/-- 'laws.FnBlends', WHERE WHAT IT READS IS OF BULK AT MOST 1048576: true; the input reads as it did. -/
def fnBlendsUptoRow : OpenClaim := { program := "ytkgpjndlpjjobaa", sum := "60cfc4c6cb96481e0b96503e30ae808862397a48708f53471b9a9b7bfa5e8c60", func := "loop.example/g03310/laws.FnBlends", spec := "fnBlends", unfollowed := true, recurses := true, apart := false, narrowed := true }
def FnBlendsUptoSaid : Prop := fnBlendsUptoRow.holds Try.pinned (OpenSpec.upto fnBlendsSpec)

/-- 'laws.FnExactStrongestFor', WHERE WHAT IT READS IS OF BULK AT MOST 1048576: true; the input reads as it did. -/
def fnExactStrongestForUptoRow : OpenClaim := { program := "ytkgpjndlpjjobaa", sum := "60cfc4c6cb96481e0b96503e30ae808862397a48708f53471b9a9b7bfa5e8c60", func := "loop.example/g03310/laws.FnExactStrongestFor", spec := "fnExactStrongestFor", unfollowed := true, recurses := true, apart := false, narrowed := true }
def FnExactStrongestForUptoSaid : Prop := fnExactStrongestForUptoRow.holds Try.pinned (OpenSpec.upto fnExactStrongestForSpec)

end Rows
end Go.Proofs.Ytkgpjndlpjjobaa
