/- FnExactBuyLoaves: the program's BuyLoaves answers as the reference's does, at all arguments; no condition. -/
import Derived.Test.YtocbhklcicbcnaaQx1
import Derived.Test.YtocbhklcicbcnaaQx3
import Derived.Test.YtocbhklcicbcnaaLembase
import Derived.Test.YtocbhklcicbcnaaLemin
import Derived.Test.YtocbhklcicbcnaaLemcardsA
import Derived.Test.YtocbhklcicbcnaaLemcardsC
import Derived.Test.YtocbhklcicbcnaaLemcardsD
namespace Go.Proofs.Ytocbhklcicbcnaa.Pure
open Go.RowKit Go.Proofs.Ytocbhklcicbcnaa.Q Go.Proofs.YtocbhklcicbcnaaW.PrintWords Go.Proofs.YtocbhklcicbcnaaW.PrintLast Go.Proofs.YtocbhklcicbcnaaW.PrintMore Go.Proofs.Ytocbhklcicbcnaa.Lem
set_option linter.unusedVariables false
set_option linter.unusedSimpArgs false
theorem FnExactBuyLoaves : laws_FnExactBuyLoaves.Pure := by
  intro a b n _ _ _
  exact ⟨1, by simp [laws_FnExactBuyLoaves.f, laws_toCard.f, buy_spec 0, buy_impl 0, eqCard_self]⟩

end Go.Proofs.Ytocbhklcicbcnaa.Pure
