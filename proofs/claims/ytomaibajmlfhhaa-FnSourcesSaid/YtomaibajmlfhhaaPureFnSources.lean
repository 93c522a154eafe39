/-
  FnSources answers true: sources are sinks of the direction turned.
-/
import Derived.Test.YtomaibajmlfhhaaLkDraw2
import Derived.Test.YtomaibajmlfhhaaSWaySources
import Derived.Test.YtomaibajmlfhhaaSWaySinks
import Derived.Test.YtomaibajmlfhhaaLkWTurn
import Derived.Test.YtomaibajmlfhhaaPx52
import Derived.Test.YtomaibajmlfhhaaPx59
namespace Go.Proofs.Ytomaibajmlfhhaa.Pure
open Go Go.RowKit Go.Proofs.YtomaibajmlfhhaaW.PrintWords Go.Proofs.YtomaibajmlfhhaaW.PrintMore Go.Proofs.Ytomaibajmlfhhaa.P Go.Proofs.Ytomaibajmlfhhaa.Gw Go.Proofs.Ytomaibajmlfhhaa.Lk
set_option linter.unusedVariables false
set_option linter.unusedSimpArgs false
theorem FnSources : laws_FnSources.Pure := by
  intro l0 hm hb hw
  apply Ev.rounds
  simp only [laws_FnSources.f]
  by_cases hbig : (l0.length : Int) > 1048576
  · simp only [if_pos hbig]; exact Ev.now true
  simp only [if_neg hbig]
  obtain ⟨m, xs, o, h1, h5, hl, he⟩ := two_ev (by omega) hw
  have hd : Ev (fun k => spec_DrawWaySources.f k l0) ((m : Int), xs, o) := by unfold spec_DrawWaySources.f; exact Ev.bind he (Ev.now _)
  refine Ev.bind hd ?_
  cases hin : wIn (m : Int) xs o with
  | false =>
    refine Ev.bind (impl_WaySources_no hl hin) (Ev.bind (spec_WaySources_no hl hin) ?_)
    simp only [bne_self_eq_false, Bool.false_eq_true, if_false, if_true, Bool.not_false]
    refine Ev.step (fun k => rfl) ?_
    simp only [laws_FnSources.j0, if_true, beq_self_eq_true]; exact Ev.now _
  | true =>
    obtain ⟨m', es, b, hmm, rfl, hv, rfl, hb⟩ := wIn_valid hin
    obtain rfl : m = m' := by omega
    refine Ev.bind (impl_WaySources_ev hv hb) (Ev.bind (spec_WaySources_ev hv hb) ?_)
    simp only [bne_self_eq_false, Bool.false_eq_true, if_false, if_true, Bool.not_true]
    refine Ev.step (fun k => rfl) ?_
    simp only [laws_FnSources.j0, Bool.false_eq_true, if_false]
    have h := impl_WaySinks_ev hv (b := tn es.length b) tn_lt
    rw [dirs_tn es b hb] at h
    refine Ev.bind (wTurned_ev hv hb) (Ev.bind h ?_)
    simp only [if_true, beq_self_eq_true]; exact Ev.now _
end Go.Proofs.Ytomaibajmlfhhaa.Pure
