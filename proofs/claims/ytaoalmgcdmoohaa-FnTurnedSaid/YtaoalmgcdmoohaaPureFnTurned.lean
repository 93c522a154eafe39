/-
  FnTurned answers true: a direction turned twice is not turned.
-/
import Derived.Test.YtaoalmgcdmoohaaLkDrawO
import Derived.Test.YtaoalmgcdmoohaaSWayTurned
import Derived.Test.YtaoalmgcdmoohaaPx56
import Derived.Test.YtaoalmgcdmoohaaPx55
namespace Go.Proofs.Ytaoalmgcdmoohaa.Pure
open Go Go.RowKit Go.Proofs.YtaoalmgcdmoohaaW.PrintWords Go.Proofs.Ytaoalmgcdmoohaa.P Go.Proofs.Ytaoalmgcdmoohaa.Gw Go.Proofs.Ytaoalmgcdmoohaa.Lk
set_option linter.unusedVariables false
set_option linter.unusedSimpArgs false
theorem FnTurned : laws_FnTurned.Pure := by
  intro l0 hm hb hw
  apply Ev.rounds
  simp only [laws_FnTurned.f]
  by_cases hbig : (l0.length : Int) > 1048576
  · simp only [if_pos hbig]; exact Ev.now true
  simp only [if_neg hbig]
  obtain ⟨m, xs, o, h1, h5, hl, he⟩ := one_ev (by omega) hw
  have hd : Ev (fun k => spec_DrawWayTurned.f k l0) ((m : Int), xs, o) := by unfold spec_DrawWayTurned.f; exact Ev.bind he (Ev.now _)
  refine Ev.bind hd ?_
  cases hin : wIn (m : Int) xs o with
  | false =>
    refine Ev.bind (impl_WayTurned_no hl hin) (Ev.bind (spec_WayTurned_no hl hin) ?_)
    simpa using Ev.now true
  | true =>
    obtain ⟨m', es, b, hmm, rfl, hv, rfl, hb⟩ := wIn_valid hin
    obtain rfl : m = m' := by omega
    refine Ev.bind (impl_WayTurned_ev hv hb) (Ev.bind (spec_WayTurned_ev hv hb) ?_)
    simp only [bne_self_eq_false, Bool.false_eq_true, if_false, if_true]
    refine Ev.bind (impl_WayTurned_ev hv tn_lt) ?_
    rw [tn_tn hb]; simpa using Ev.now true
end Go.Proofs.Ytaoalmgcdmoohaa.Pure
