/-
  FnExactWayInto answers true: the program's WayInto and the reference's tell the same, for all arguments.
-/
import Derived.Test.YtljaalhocjobeaaMFnExactWayInto
import Derived.Test.YtljaalhocjobeaaPx80
namespace Go.Proofs.Ytljaalhocjobeaa.Pure
open Go Go.RowKit Go.Proofs.YtljaalhocjobeaaW.PrintWords Go.Proofs.Ytljaalhocjobeaa.P Go.Proofs.Ytljaalhocjobeaa.Gw Go.Proofs.Ytljaalhocjobeaa.Lk
set_option linter.unusedVariables false
set_option linter.unusedSimpArgs false
theorem FnExactWayInto (n : Int) (xs : List S63) (a1 : Int) (hm : xs.length ≤ 9223372036854775807) (w1 : (Lit.int .i64 a1).wf = true) : ∃ k, laws_FnExactWayInto.f k n xs a1 = some true := by
  apply Ev.rounds
  simp only [laws_FnExactWayInto.f]
  rcases big_or xs hm with h | h
  · simp only [h, Option.bind_some]; exact Ev.now true
  simp only [sz_small h, Option.bind_some, if_neg (sz_neg h)]
  have hl : (cv xs).length < 2 ^ 62 := by rw [cv_length]; omega
  obtain ⟨⟨r1, r2⟩, hs, hi, hr⟩ := same_WayInto n (cv xs) a1 hl
  refine Ev.bind (toGraph_ev h) (Ev.bind hs (Ev.bind (toGraph_ev h) (Ev.bind hi ?_)))
  have hr : r1.length ≤ 1000 := hr
  simp only [bne_self_eq_false]
  refine Ev.bind (eqInt_ev (by omega)) ?_
  simp only [if_true]
  refine Ev.step (fun k => rfl) ?_
  simp only [laws_FnExactWayInto.j0, bne_self_eq_false, Bool.false_eq_true, if_false]
  refine Ev.bind (toGraph_ev h) (Ev.bind (eqGraph_ev hl) ?_)
  simp only [if_true]
  obtain ⟨c, xs', hmk⟩ := markGraph_ev n (xs := cv xs) (by rw [cv_length]; exact h)
  refine Ev.bind hmk ?_
  simp only [if_neg (show ¬ ((c : Int) < 0) by omega)]
  refine Ev.bind (eqInt_ev (by omega)) ?_
  simp only [if_true]
  refine Ev.step (fun k => rfl) ?_
  simp only [laws_FnExactWayInto.j1, bne_self_eq_false, Bool.false_eq_true, if_false]
  refine Ev.bind (markInt_ev (l := r1) (by omega)) ?_
  refine Ev.bind (heldInt_ev (n := r1.length) (by omega)) ?_
  simp only [if_neg (show ¬ (((r1.length + 1 : Nat) : Int) < 0) by omega), if_true]
  refine Ev.bind (toGraph_ev h) (Ev.bind hi ?_)
  simp only [bne_self_eq_false]
  refine Ev.bind (eqInt_ev (by omega)) ?_
  simp only [if_true]
  refine Ev.step (fun k => rfl) ?_
  simp only [laws_FnExactWayInto.j2, bne_self_eq_false, Bool.false_eq_true, if_false]
  refine Ev.bind (heldInt_ev (n := r1.length) (by omega)) ?_
  simp only [if_neg (show ¬ (((r1.length + 1 : Nat) : Int) < 0) by omega), if_true]
  exact Ev.now _
end Go.Proofs.Ytljaalhocjobeaa.Pure
