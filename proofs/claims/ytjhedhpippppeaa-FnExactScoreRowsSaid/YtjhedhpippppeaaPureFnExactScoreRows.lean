/-
  FnExactScoreRows answers true: the program's ScoreRows and the reference's tell the same, for all arguments.
-/
import Derived.Test.YtjhedhpippppeaaLkX
import Derived.Test.YtjhedhpippppeaaSScoreRows
import Derived.Test.YtjhedhpippppeaaPx95
namespace Go.Proofs.Ytjhedhpippppeaa.Pure
open Go Go.RowKit Go.Proofs.YtjhedhpippppeaaW.PrintWords Go.Proofs.Ytjhedhpippppeaa.P Go.Proofs.Ytjhedhpippppeaa.Gw Go.Proofs.Ytjhedhpippppeaa.Lk
set_option linter.unusedVariables false
set_option linter.unusedSimpArgs false
theorem FnExactScoreRows (n : Int) (xs : List S82) (hm : xs.length ≤ 9223372036854775807) : ∃ k, laws_FnExactScoreRows.f k n xs  = some true := by
  apply Ev.rounds
  simp only [laws_FnExactScoreRows.f]
  rcases big_or xs hm with h | h
  · simp only [h, Option.bind_some]; exact Ev.now true
  simp only [sz_small h, Option.bind_some, if_neg (sz_neg h)]
  have hl : (cv xs).length < 2 ^ 62 := by rw [cv_length]; omega
  obtain ⟨r, hs, hi⟩ := same_ScoreRows n (cv xs)  hl
  refine Ev.bind (toGraph_ev h) (Ev.bind hs (Ev.bind (toGraph_ev h) (Ev.bind hi ?_)))
  simp only [bne_self_eq_false, if_true]
  refine Ev.step (fun k => rfl) ?_
  simp only [laws_FnExactScoreRows.j0, Bool.false_eq_true, if_false]
  refine Ev.bind (toGraph_ev h) (Ev.bind (eqGraph_ev hl) ?_)
  simpa using Ev.now true
end Go.Proofs.Ytjhedhpippppeaa.Pure
