/- FnExactUseFree: the program's UseFree answers as the reference's does, at all arguments; no condition. -/
import Derived.Test.YtocbhklcicbcnaaQx1
import Derived.Test.YtocbhklcicbcnaaQx2
import Derived.Test.YtocbhklcicbcnaaLembase
import Derived.Test.YtocbhklcicbcnaaLemin
import Derived.Test.YtocbhklcicbcnaaLemcardsA
import Derived.Test.YtocbhklcicbcnaaLemcardsC
namespace Go.Proofs.Ytocbhklcicbcnaa.Pure
open Go.RowKit Go.Proofs.Ytocbhklcicbcnaa.Q Go.Proofs.YtocbhklcicbcnaaW.PrintWords Go.Proofs.YtocbhklcicbcnaaW.PrintLast Go.Proofs.YtocbhklcicbcnaaW.PrintMore Go.Proofs.Ytocbhklcicbcnaa.Lem
set_option linter.unusedVariables false
set_option linter.unusedSimpArgs false
theorem FnExactUseFree : laws_FnExactUseFree.Pure := by
  intro a b _ _
  simp [laws_FnExactUseFree.f, laws_toCard.f, use_spec, use_impl, eqCard_self]

end Go.Proofs.Ytocbhklcicbcnaa.Pure
