/-
  FnExactWayGraph answers true: the program's WayGraph and the reference's tell the same of every graph.
-/
import Derived.Test.YtaoalmgcdmoohaaLkX
import Derived.Test.YtaoalmgcdmoohaaPx13
namespace Go.Proofs.Ytaoalmgcdmoohaa.Pure
open Go Go.RowKit Go.Proofs.YtaoalmgcdmoohaaW.PrintWords Go.Proofs.Ytaoalmgcdmoohaa.P Go.Proofs.Ytaoalmgcdmoohaa.Gw Go.Proofs.Ytaoalmgcdmoohaa.Lk
set_option linter.unusedVariables false
set_option linter.unusedSimpArgs false
theorem FnExactWayGraph (n : Int) (xs : List S59) (hm : xs.length ≤ 9223372036854775807) : ∃ k, laws_FnExactWayGraph.f k n xs = some true := by
  apply Ev.rounds
  simp only [laws_FnExactWayGraph.f]
  rcases big_or xs hm with h | h
  · simp only [h, Option.bind_some]; exact Ev.now true
  simp only [sz_small h, Option.bind_some, if_neg (sz_neg h)]
  have hl : (cv xs).length < 2 ^ 62 := by rw [cv_length]; omega
  refine Ev.bind (toGraph_ev h) (Ev.bind (spec_wayGraph hl) (Ev.bind (toGraph_ev h) (Ev.bind (impl_wayGraph hl) ?_)))
  simp only [bne_self_eq_false, Bool.false_eq_true, if_false]
  refine Ev.bind (toGraph_ev h) (Ev.bind (eqGraph_ev hl) ?_)
  simpa using Ev.now true
end Go.Proofs.Ytaoalmgcdmoohaa.Pure
