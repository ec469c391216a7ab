/- The functions that the seat's statements reach, as plain Lean functions, and that the program's calls answer what they say; no condition beyond the values read. Written by a program of this session's over the kit's print. -/
import Derived.Test.YtocbhklcicbcnaaProg
import Derived.Below
import Derived.Deep.Draws
import Derived.Deep.AppendLies
import Derived.Maps.AppendAt
import Derived.OwnWalk
import Derived.Laws.BytesArg
import Derived.Laws.MakeOwn
import Derived.Laws.OwnMore
import Derived.Deep.OwnRows
import Derived.Tactics
import Derived.Lib.ConvBytes
import Derived.Laws.Slices
import Derived.WalkKit
import Derived.KernelRfl
import Derived.RowKit3
import Derived.Deep.LoopGhost
import Derived.Deep.QuietTactic
import Derived.BigQuiet
import Derived.WideLaws
import Derived.Deep.DeepCutAuto
import Derived.Deep.CutBlock
import Derived.Deep.RegionHeld3
import Derived.Laws.Rows
import Derived.Lib.AppendStr
import Derived.ArgAppend
import Derived.Laws.IdiomCopy
import Derived.OrdersHeld
import Derived.Laws.BitsLemmas
import Derived.RowKit
import Derived.Test.YtocbhklcicbcnaaWWords
import Derived.Test.YtocbhklcicbcnaaWLast
import Derived.Test.YtocbhklcicbcnaaWTab
import Derived.Test.YtocbhklcicbcnaaWFour
import Derived.Test.YtocbhklcicbcnaaWQPut
import Derived.Test.YtocbhklcicbcnaaWApart
import Derived.Test.YtocbhklcicbcnaaWArr
import Derived.Test.YtocbhklcicbcnaaWZeros
import Derived.Test.YtocbhklcicbcnaaWFoot
import Derived.Test.YtocbhklcicbcnaaWKept
import Derived.Test.YtocbhklcicbcnaaWShare
import Derived.Test.YtocbhklcicbcnaaWN
import Derived.Test.YtocbhklcicbcnaaWFootNe
import Derived.Test.YtocbhklcicbcnaaWAt
import Derived.Test.YtocbhklcicbcnaaWEqStruct
import Derived.Test.YtocbhklcicbcnaaWRepsOne
import Derived.Test.YtocbhklcicbcnaaWInv
import Derived.Test.YtocbhklcicbcnaaWInvWords
import Derived.Test.YtocbhklcicbcnaaWGuard
import Derived.Test.YtocbhklcicbcnaaWNEv
import Derived.Test.YtocbhklcicbcnaaWMore
namespace Go.Proofs.Ytocbhklcicbcnaa.Q
open Go.RowKit Go.Proofs.YtocbhklcicbcnaaW.PrintWords Go.Proofs.YtocbhklcicbcnaaW.PrintLast Go.Proofs.YtocbhklcicbcnaaW.PrintMore
attribute [local go_sem] max2_int min2_int max_two min_two max_three min_three max_four min_four   -- for this text's walks alone
set_option linter.unusedVariables false
set_option linter.unusedSimpArgs false



def errW : Option Int → Value
  | none => .nilIface
  | some c => .iface 0 (.int .i64 c)
theorem errW_none : errW none = .nilIface := rfl
theorem errW_some (c : Int) : errW (some c) = .iface 0 (.int .i64 c) := rfl

-- the values' own types

end Go.Proofs.Ytocbhklcicbcnaa.Q
