/-
  FnExactPlainPoly answers true: the program's PlainPoly and the reference's tell the same, for all arguments.
-/
import Derived.Test.YtjhedhpippppeaaLkX
import Derived.Test.YtjhedhpippppeaaSPlainPoly
import Derived.Test.YtjhedhpippppeaaLkM
import Derived.Test.YtjhedhpippppeaaPx91
namespace Go.Proofs.Ytjhedhpippppeaa.Pure
open Go Go.RowKit Go.Proofs.YtjhedhpippppeaaW.PrintWords Go.Proofs.Ytjhedhpippppeaa.P Go.Proofs.Ytjhedhpippppeaa.Gw Go.Proofs.Ytjhedhpippppeaa.Lk
set_option linter.unusedVariables false
set_option linter.unusedSimpArgs false
theorem FnExactPlainPoly (n : Int) (xs : List S82) (hm : xs.length ≤ 9223372036854775807) : ∃ k, laws_FnExactPlainPoly.f k n xs  = some true := by
  apply Ev.rounds
  simp only [laws_FnExactPlainPoly.f]
  rcases big_or xs hm with h | h
  · simp only [h, Option.bind_some]; exact Ev.now true
  simp only [sz_small h, Option.bind_some, if_neg (sz_neg h)]
  have hl : (cv xs).length < 2 ^ 62 := by rw [cv_length]; omega
  obtain ⟨⟨r1, r2⟩, hs, hi, hr⟩ := same_PlainPoly n (cv xs)  hl
  refine Ev.bind (toGraph_ev h) (Ev.bind hs (Ev.bind (toGraph_ev h) (Ev.bind hi ?_)))
  have hr : r1.length ≤ 1000 := hr
  simp only [bne_self_eq_false]
  refine Ev.bind (eqInt_ev (by omega)) ?_
  simp only [if_true]
  refine Ev.step (fun k => rfl) ?_
  simp only [laws_FnExactPlainPoly.j0, bne_self_eq_false, Bool.false_eq_true, if_false]
  refine Ev.bind (toGraph_ev h) (Ev.bind (eqGraph_ev hl) ?_)
  simp only [if_true]
  obtain ⟨c, xs', hmk⟩ := markGraph_ev n (xs := cv xs) (by rw [cv_length]; exact h)
  refine Ev.bind hmk ?_
  simp only [if_neg (show ¬ ((c : Int) < 0) by omega)]
  refine Ev.bind (eqInt_ev (by omega)) ?_
  simp only [if_true]
  refine Ev.step (fun k => rfl) ?_
  simp only [laws_FnExactPlainPoly.j1, bne_self_eq_false, Bool.false_eq_true, if_false]
  refine Ev.bind (markInt_ev (l := r1) (by omega)) ?_
  refine Ev.bind (heldInt_ev (n := r1.length) (by omega)) ?_
  simp only [if_neg (show ¬ (((r1.length + 1 : Nat) : Int) < 0) by omega), if_true]
  refine Ev.bind (toGraph_ev h) (Ev.bind hi ?_)
  simp only [bne_self_eq_false]
  refine Ev.bind (eqInt_ev (by omega)) ?_
  simp only [if_true]
  refine Ev.step (fun k => rfl) ?_
  simp only [laws_FnExactPlainPoly.j2, bne_self_eq_false, Bool.false_eq_true, if_false]
  refine Ev.bind (heldInt_ev (n := r1.length) (by omega)) ?_
  simp only [if_neg (show ¬ (((r1.length + 1 : Nat) : Int) < 0) by omega), if_true]
  exact Ev.now _
end Go.Proofs.Ytjhedhpippppeaa.Pure
