/-
  FnInto answers true: what leads to the nodes is what leads from them when all is turned.
-/
import Derived.Test.YtomaibajmlfhhaaMFnInto
import Derived.Test.YtomaibajmlfhhaaPx70
import Derived.Test.YtomaibajmlfhhaaPx68
namespace Go.Proofs.Ytomaibajmlfhhaa.Pure
open Go Go.RowKit Go.Proofs.YtomaibajmlfhhaaW.PrintWords Go.Proofs.YtomaibajmlfhhaaW.PrintLast Go.Proofs.YtomaibajmlfhhaaW.PrintMore Go.Proofs.Ytomaibajmlfhhaa.P Go.Proofs.Ytomaibajmlfhhaa.Gw Go.Proofs.Ytomaibajmlfhhaa.Lk
set_option linter.unusedVariables false
set_option linter.unusedSimpArgs false
theorem FnInto : laws_FnInto.Pure := by
  intro l0 hm hb hw
  apply Ev.rounds
  simp only [laws_FnInto.f]
  by_cases hbig : (l0.length : Int) > 1048576
  · simp only [if_pos hbig]; exact Ev.now true
  simp only [if_neg hbig]
  obtain ⟨m, xs, o, h1, h5, hl, he⟩ := one_ev (by omega) hw
  have hd : Ev (fun k => spec_DrawWayInto.f k l0) ((m : Int), xs, o) := by unfold spec_DrawWayInto.f; exact Ev.bind he (Ev.now _)
  refine Ev.bind hd ?_
  cases hin : wIn (m : Int) xs o with
  | false =>
    refine Ev.bind (impl_WayInto_no hl hin) (Ev.bind (spec_WayInto_no hl hin) ?_)
    simp only [bne_self_eq_false, Bool.false_eq_true, if_false, Bool.not_false]
    refine Ev.bind (sameInts_ev (by simp)) ?_
    simp only [if_true]
    refine Ev.step (fun k => by simp only [laws_FnInto.j0]; rfl) ?_
    simp only [if_true, beq_self_eq_true]
    exact Ev.bind (sameInts_ev (by simp)) (Ev.now _)
  | true =>
    obtain ⟨m', es, b, hmm, rfl, hv, rfl, hb'⟩ := wIn_valid hin
    obtain rfl : m = m' := by omega
    have hlen : (toI (outsOf m (rev (dirs es b)))).length < 2 ^ 62 := by rw [toI_length, outsOf_length]; omega
    have h2 := impl_WayOut_ev hv (b := tn es.length b) tn_lt
    rw [dirs_tn es b hb'] at h2
    refine Ev.bind (impl_WayInto_ev hv hb') (Ev.bind (spec_WayInto_ev hv hb') ?_)
    simp only [bne_self_eq_false, Bool.false_eq_true, if_false, Bool.not_true]
    refine Ev.bind (sameInts_ev hlen) ?_
    simp only [if_true]
    refine Ev.step (fun k => by simp only [laws_FnInto.j0]; rfl) ?_
    simp only [Bool.false_eq_true, if_false]
    refine Ev.bind (wTurned_ev hv hb') (Ev.bind h2 ?_)
    simp only [if_true]
    exact Ev.bind (sameInts_ev hlen) (Ev.now _)
end Go.Proofs.Ytomaibajmlfhhaa.Pure
