/-
  FnExactConstants answers true.
-/
import Derived.Test.YtaoalmgcdmoohaaPx1
namespace Go.Proofs.Ytaoalmgcdmoohaa.Pure
open Go.Proofs.Ytaoalmgcdmoohaa.P
theorem FnExactConstants : laws_FnExactConstants.Pure := rfl
end Go.Proofs.Ytaoalmgcdmoohaa.Pure
