/-
  No cell of these rows narrows 'for every input' (looked for: loops, veiled, ifaces, maps, wideKeys, modest, calm, conditions, laid).
  DERIVED. THE GIVEN ROWS OF THIS SEAT. 5 by the template 'for every input the law returns true; each argument reads behind the call as it read before'; 0 by the template 'total and deterministic' (their statements: YtocbhklcicbcnaaTotals.lean).
  GIVEN WITH THE SEED: the statements are not yours to turn. If you find one false, say at which input.
  Laid BY PROGRAM, IN A SANDBOX (cutbox-rows.mjs): the forced cells as the released guide's own fill.sh prints them over the translation a28e28bfa7d24603… (all of the seat's roots in one cut). By AI agents, Wed Nov 11 2026. No macro, syntax, notation, axiom, sorry.
-/
import Derived.Test.YtocbhklcicbcnaaChecked
import GoSem.Claim
import GoSem.ClaimJoined
import GoSem.ClaimMapViews
import Derived.JoinedTies
import Derived.KernelRfl
namespace Go.Proofs.Ytocbhklcicbcnaa
/- THE CELL 'sum', in the pinned program and in every row, IS THE sha256 OF THE DUMP (.gsa) THAT YtocbhklcicbcnaaProg.lean LOADS. Nothing in Lean hashes anything: it is a label: what it is worth is what the hold of that sum in a sandbox is worth. -/
noncomputable def Try.pinned : Pinned := { name := "ytocbhklcicbcnaa", sum := "a28e28bfa7d24603521be78347c65a33a3f721b326d2d5b1d323e01dcc00623d", checked := Try.checked }
namespace Rows
def none {H : Type} : Left H := { results := [], args := [] }

/-- 'laws.FnExactLoavesUntilFree': WHATEVER THE INPUT: true; the input reads as it did. -/
def fnExactLoavesUntilFreeSpec : ChangeSpec := { name := "fnExactLoavesUntilFree", fn := fun _ => fun
  | [d] => { results := [.lit (.bool true)], args := [d] }
  | _ => none }
def fnExactLoavesUntilFreeRow : OpenClaim := { program := "ytocbhklcicbcnaa", sum := "a28e28bfa7d24603521be78347c65a33a3f721b326d2d5b1d323e01dcc00623d", func := "loop.example/g03310/laws.FnExactLoavesUntilFree", spec := "fnExactLoavesUntilFree", apart := false }
def FnExactLoavesUntilFreeSaid : Prop := fnExactLoavesUntilFreeRow.holds Try.pinned (OpenSpec.ofChange fnExactLoavesUntilFreeSpec)

/-- ITS FALSE NEIGHBOUR: 'it returns false'. Refute it at one input. -/
def fnExactLoavesUntilFreeWrong : ChangeSpec := { name := "fnExactLoavesUntilFree", fn := fun _ => fun
  | [d] => { results := [.lit (.bool false)], args := [d] }
  | _ => none }
def FnExactLoavesUntilFreeWrongFalsely : Prop := fnExactLoavesUntilFreeRow.holds Try.pinned (OpenSpec.ofChange fnExactLoavesUntilFreeWrong)

/-- 'laws.FnExactUseFree': WHATEVER THE INPUT: true; the input reads as it did. -/
def fnExactUseFreeSpec : ChangeSpec := { name := "fnExactUseFree", fn := fun _ => fun
  | [d] => { results := [.lit (.bool true)], args := [d] }
  | _ => none }
def fnExactUseFreeRow : OpenClaim := { program := "ytocbhklcicbcnaa", sum := "a28e28bfa7d24603521be78347c65a33a3f721b326d2d5b1d323e01dcc00623d", func := "loop.example/g03310/laws.FnExactUseFree", spec := "fnExactUseFree", apart := false }
def FnExactUseFreeSaid : Prop := fnExactUseFreeRow.holds Try.pinned (OpenSpec.ofChange fnExactUseFreeSpec)

/-- ITS FALSE NEIGHBOUR: 'it returns false'. Refute it at one input. -/
def fnExactUseFreeWrong : ChangeSpec := { name := "fnExactUseFree", fn := fun _ => fun
  | [d] => { results := [.lit (.bool false)], args := [d] }
  | _ => none }
def FnExactUseFreeWrongFalsely : Prop := fnExactUseFreeRow.holds Try.pinned (OpenSpec.ofChange fnExactUseFreeWrong)

/-- 'laws.FnExactBuyLoaves': WHATEVER THE INPUT: true; the input reads as it did. -/
def fnExactBuyLoavesSpec : ChangeSpec := { name := "fnExactBuyLoaves", fn := fun _ => fun
  | [d1, d2] => { results := [.lit (.bool true)], args := [d1, d2] }
  | _ => none }
def fnExactBuyLoavesRow : OpenClaim := { program := "ytocbhklcicbcnaa", sum := "a28e28bfa7d24603521be78347c65a33a3f721b326d2d5b1d323e01dcc00623d", func := "loop.example/g03310/laws.FnExactBuyLoaves", spec := "fnExactBuyLoaves", apart := false }
def FnExactBuyLoavesSaid : Prop := fnExactBuyLoavesRow.holds Try.pinned (OpenSpec.ofChange fnExactBuyLoavesSpec)

/-- ITS FALSE NEIGHBOUR: 'it returns false'. Refute it at one input. -/
def fnExactBuyLoavesWrong : ChangeSpec := { name := "fnExactBuyLoaves", fn := fun _ => fun
  | [d1, d2] => { results := [.lit (.bool false)], args := [d1, d2] }
  | _ => none }
def FnExactBuyLoavesWrongFalsely : Prop := fnExactBuyLoavesRow.holds Try.pinned (OpenSpec.ofChange fnExactBuyLoavesWrong)

/-- 'laws.FnExactJoinCards': WHATEVER THE INPUT: true; the input reads as it did. -/
def fnExactJoinCardsSpec : ChangeSpec := { name := "fnExactJoinCards", fn := fun _ => fun
  | [d1, d2] => { results := [.lit (.bool true)], args := [d1, d2] }
  | _ => none }
def fnExactJoinCardsRow : OpenClaim := { program := "ytocbhklcicbcnaa", sum := "a28e28bfa7d24603521be78347c65a33a3f721b326d2d5b1d323e01dcc00623d", func := "loop.example/g03310/laws.FnExactJoinCards", spec := "fnExactJoinCards", apart := false }
def FnExactJoinCardsSaid : Prop := fnExactJoinCardsRow.holds Try.pinned (OpenSpec.ofChange fnExactJoinCardsSpec)

/-- ITS FALSE NEIGHBOUR: 'it returns false'. Refute it at one input. -/
def fnExactJoinCardsWrong : ChangeSpec := { name := "fnExactJoinCards", fn := fun _ => fun
  | [d1, d2] => { results := [.lit (.bool false)], args := [d1, d2] }
  | _ => none }
def FnExactJoinCardsWrongFalsely : Prop := fnExactJoinCardsRow.holds Try.pinned (OpenSpec.ofChange fnExactJoinCardsWrong)

/-- 'laws.FnCards': WHATEVER THE INPUT: true; the input reads as it did. -/
def fnCardsSpec : ChangeSpec := { name := "fnCards", fn := fun _ => fun
  | [d] => { results := [.lit (.bool true)], args := [d] }
  | _ => none }
def fnCardsRow : OpenClaim := { program := "ytocbhklcicbcnaa", sum := "a28e28bfa7d24603521be78347c65a33a3f721b326d2d5b1d323e01dcc00623d", func := "loop.example/g03310/laws.FnCards", spec := "fnCards", apart := false }
def FnCardsSaid : Prop := fnCardsRow.holds Try.pinned (OpenSpec.ofChange fnCardsSpec)

/-- ITS FALSE NEIGHBOUR: 'it returns false'. Refute it at one input. -/
def fnCardsWrong : ChangeSpec := { name := "fnCards", fn := fun _ => fun
  | [d] => { results := [.lit (.bool false)], args := [d] }
  | _ => none }
def FnCardsWrongFalsely : Prop := fnCardsRow.holds Try.pinned (OpenSpec.ofChange fnCardsWrong)

/- THE SECOND FORM. 'bulk': how many values and letters a reading holds, each counted each time it is reached (what is shared counts as often as it is met; a slice's spare places count too). A statement '..UptoSaid' is the law's where the arguments, and the package variables that the reading takes, are together of bulk at most 1048576: NARROWER than '..Said'. Prove '..Said' where nothing that the law and all that it calls make is longer than what came in: it says more and counts as full. Else prove '..UptoSaid'. A law counts once. -/
mutual
def uptoBulk {H : Type} : DataW H → Nat
  | .lit (.string bytes) => bytes.length + 1
  | .lit _ => 1
  | .nil => 1
  | .ptr d => uptoBulk d + 1
  | .slice elems spare => uptoBulkAll elems + uptoBulkAll spare + 1
  | .agg parts => uptoBulkAll parts + 1
  | .iface _ d => uptoBulk d + 1
  | .map entries => uptoBulkEntries entries + 1
  | .held _ => 1
def uptoBulkAll {H : Type} : List (DataW H) → Nat
  | [] => 0
  | d :: r => uptoBulk d + uptoBulkAll r
def uptoBulkEntries {H : Type} : List (Lit × DataW H) → Nat
  | [] => 0
  | x :: r => uptoBulkEntry x + uptoBulkEntries r
def uptoBulkEntry {H : Type} : Lit × DataW H → Nat
  | (.string bytes, d) => bytes.length + uptoBulk d + 1
  | (_, d) => uptoBulk d + 1
 end
def uptoSmall : (H : Type) → List (DataW H) → Bool := fun _ ds => decide (uptoBulkAll ds ≤ 1048576)
def OpenSpec.upto (s : _root_.Go.ChangeSpec) : _root_.Go.OpenSpec := { _root_.Go.OpenSpec.ofChange s with cond := some uptoSmall }

/-- 'laws.FnExactLoavesUntilFree', WHERE WHAT IT READS IS OF BULK AT MOST 1048576: true; the input reads as it did. -/
def fnExactLoavesUntilFreeUptoRow : OpenClaim := { program := "ytocbhklcicbcnaa", sum := "a28e28bfa7d24603521be78347c65a33a3f721b326d2d5b1d323e01dcc00623d", func := "loop.example/g03310/laws.FnExactLoavesUntilFree", spec := "fnExactLoavesUntilFree", apart := false, narrowed := true }
def FnExactLoavesUntilFreeUptoSaid : Prop := fnExactLoavesUntilFreeUptoRow.holds Try.pinned (OpenSpec.upto fnExactLoavesUntilFreeSpec)

/-- 'laws.FnExactUseFree', WHERE WHAT IT READS IS OF BULK AT MOST 1048576: true; the input reads as it did. -/
def fnExactUseFreeUptoRow : OpenClaim := { program := "ytocbhklcicbcnaa", sum := "a28e28bfa7d24603521be78347c65a33a3f721b326d2d5b1d323e01dcc00623d", func := "loop.example/g03310/laws.FnExactUseFree", spec := "fnExactUseFree", apart := false, narrowed := true }
def FnExactUseFreeUptoSaid : Prop := fnExactUseFreeUptoRow.holds Try.pinned (OpenSpec.upto fnExactUseFreeSpec)

/-- 'laws.FnExactBuyLoaves', WHERE WHAT IT READS IS OF BULK AT MOST 1048576: true; the input reads as it did. -/
def fnExactBuyLoavesUptoRow : OpenClaim := { program := "ytocbhklcicbcnaa", sum := "a28e28bfa7d24603521be78347c65a33a3f721b326d2d5b1d323e01dcc00623d", func := "loop.example/g03310/laws.FnExactBuyLoaves", spec := "fnExactBuyLoaves", apart := false, narrowed := true }
def FnExactBuyLoavesUptoSaid : Prop := fnExactBuyLoavesUptoRow.holds Try.pinned (OpenSpec.upto fnExactBuyLoavesSpec)

/-- 'laws.FnExactJoinCards', WHERE WHAT IT READS IS OF BULK AT MOST 1048576: true; the input reads as it did. -/
def fnExactJoinCardsUptoRow : OpenClaim := { program := "ytocbhklcicbcnaa", sum := "a28e28bfa7d24603521be78347c65a33a3f721b326d2d5b1d323e01dcc00623d", func := "loop.example/g03310/laws.FnExactJoinCards", spec := "fnExactJoinCards", apart := false, narrowed := true }
def FnExactJoinCardsUptoSaid : Prop := fnExactJoinCardsUptoRow.holds Try.pinned (OpenSpec.upto fnExactJoinCardsSpec)

/-- 'laws.FnCards', WHERE WHAT IT READS IS OF BULK AT MOST 1048576: true; the input reads as it did. -/
def fnCardsUptoRow : OpenClaim := { program := "ytocbhklcicbcnaa", sum := "a28e28bfa7d24603521be78347c65a33a3f721b326d2d5b1d323e01dcc00623d", func := "loop.example/g03310/laws.FnCards", spec := "fnCards", apart := false, narrowed := true }
def FnCardsUptoSaid : Prop := fnCardsUptoRow.holds Try.pinned (OpenSpec.upto fnCardsSpec)

end Rows
end Go.Proofs.Ytocbhklcicbcnaa
