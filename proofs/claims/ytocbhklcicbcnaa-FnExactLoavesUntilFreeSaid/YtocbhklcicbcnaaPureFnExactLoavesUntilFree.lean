/- FnExactLoavesUntilFree: the program's LoavesUntilFree answers as the reference's does, at all arguments; no condition. -/
import Derived.Test.YtocbhklcicbcnaaQx1
import Derived.Test.YtocbhklcicbcnaaLembase
import Derived.Test.YtocbhklcicbcnaaLemin
import Derived.Test.YtocbhklcicbcnaaLemcardsA
import Derived.Test.YtocbhklcicbcnaaLemcardsB
namespace Go.Proofs.Ytocbhklcicbcnaa.Pure
open Go.RowKit Go.Proofs.Ytocbhklcicbcnaa.Q Go.Proofs.YtocbhklcicbcnaaW.PrintWords Go.Proofs.YtocbhklcicbcnaaW.PrintLast Go.Proofs.YtocbhklcicbcnaaW.PrintMore Go.Proofs.Ytocbhklcicbcnaa.Lem
set_option linter.unusedVariables false
set_option linter.unusedSimpArgs false
theorem FnExactLoavesUntilFree : laws_FnExactLoavesUntilFree.Pure := by
  intro a b _ _
  simp [laws_FnExactLoavesUntilFree.f, laws_toCard.f, until_spec, until_impl]

end Go.Proofs.Ytocbhklcicbcnaa.Pure
