/-
  FnPlain answers true: plain directions have sources and sinks, and are plain turned.
-/
import Derived.Test.YtomaibajmlfhhaaMFnPlain
import Derived.Test.YtomaibajmlfhhaaPx71
import Derived.Test.YtomaibajmlfhhaaPx77
namespace Go.Proofs.Ytomaibajmlfhhaa.Pure
open Go Go.RowKit Go.Proofs.YtomaibajmlfhhaaW.PrintWords Go.Proofs.YtomaibajmlfhhaaW.PrintMore Go.Proofs.Ytomaibajmlfhhaa.P Go.Proofs.Ytomaibajmlfhhaa.Gw Go.Proofs.Ytomaibajmlfhhaa.Lk
set_option linter.unusedVariables false
set_option linter.unusedSimpArgs false
theorem FnPlain : laws_FnPlain.Pure := by
  intro l0 hm hb hw
  apply Ev.rounds
  simp only [laws_FnPlain.f]
  by_cases hbig : (l0.length : Int) > 1048576
  · simp only [if_pos hbig]; exact Ev.now true
  simp only [if_neg hbig]
  obtain ⟨m, xs, o, h1, h5, hl, he⟩ := two_ev (by omega) hw
  have hd : Ev (fun k => spec_DrawPlainIn.f k l0) ((m : Int), xs, o) := by unfold spec_DrawPlainIn.f; exact Ev.bind he (Ev.now _)
  refine Ev.bind hd ?_
  cases hin : wIn (m : Int) xs o with
  | false =>
    refine Ev.bind (impl_PlainIn_no hl hin) (Ev.bind (spec_PlainIn_no hl hin) ?_)
    simp only [bne_self_eq_false, Bool.false_eq_true, if_false, Bool.not_false]
    refine Ev.step (fun k => rfl) ?_
    simp only [laws_FnPlain.j0, if_true, beq_self_eq_true]; exact Ev.now _
  | true =>
    obtain ⟨m', es, b, hmm, rfl, hv, rfl, hb⟩ := wIn_valid hin
    obtain rfl : m = m' := by omega
    have h5' := hv.le
    have hR := dirs_inR hv.inR b
    refine Ev.bind (impl_PlainIn_ev hv hb) (Ev.bind (spec_PlainIn_ev hv hb) ?_)
    cases hp : plainF m (rowsOf m (dirs es b)) with
    | false =>
      simp only [bne_self_eq_false, Bool.false_eq_true, if_false, Bool.not_false]
      refine Ev.step (fun k => rfl) ?_
      simp only [laws_FnPlain.j0, if_true, beq_self_eq_true]; exact Ev.now _
    | true =>
      simp only [bne_self_eq_false, Bool.false_eq_true, if_false, Bool.not_true]
      refine Ev.step (fun k => rfl) ?_
      simp only [laws_FnPlain.j0, Bool.false_eq_true, if_false]
      have s1 := plain_source h5' hv.pos hR hp
      have s2 := plain_sink h5' hv.pos hR hp
      have h := impl_PlainIn_ev hv (b := tn es.length b) tn_lt
      rw [dirs_tn es b hb, plain_rev h5' hR, hp] at h
      refine Ev.bind (wTurned_ev hv hb) (Ev.bind (impl_WaySources_ev hv hb) (Ev.bind (impl_WaySinks_ev hv hb) ?_))
      simp only [if_true, if_pos (show ((sinksF (rowsOf m (rev (dirs es b))) : Nat) : Int) > 0 by omega), if_pos (show ((sinksF (rowsOf m (dirs es b)) : Nat) : Int) > 0 by omega)]
      exact Ev.bind h (Ev.now _)
end Go.Proofs.Ytomaibajmlfhhaa.Pure
