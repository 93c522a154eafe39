/-
  WayIn of the program and of the reference tell the same, for every graph and number.
-/
import Derived.Test.YtaoalmgcdmoohaaLkIn
namespace Go.Proofs.Ytaoalmgcdmoohaa.Lk
open Go Go.RowKit Go.Proofs.YtaoalmgcdmoohaaW.PrintWords Go.Proofs.YtaoalmgcdmoohaaW.PrintLast Go.Proofs.YtaoalmgcdmoohaaW.PrintMore Go.Proofs.Ytaoalmgcdmoohaa.P Go.Proofs.Ytaoalmgcdmoohaa.Gw
set_option linter.unusedVariables false
set_option linter.unusedSimpArgs false
theorem same_WayIn (n : Int) (ys : List S48) (o : Int) (hl : ys.length < 2 ^ 62) : ∃ r, Ev (fun k => spec_WayIn.f k n ys o) r ∧ Ev (fun k => impl_WayIn.f k n ys o) r :=
  ⟨_, spec_wayIn hl, impl_wayIn hl⟩
end Go.Proofs.Ytaoalmgcdmoohaa.Lk
