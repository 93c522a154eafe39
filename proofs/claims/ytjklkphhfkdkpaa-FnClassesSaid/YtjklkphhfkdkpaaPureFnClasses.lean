/-
  FnClasses answers true: there is a class, and where a graph has one part the classes are as many as the acyclic directions with node 0 as the only source.
-/
import Derived.Test.YtjklkphhfkdkpaaMFnClasses
import Derived.Test.YtjklkphhfkdkpaaPx28
import Derived.Test.YtjklkphhfkdkpaaPx24
namespace Go.Proofs.Ytjklkphhfkdkpaa.Pure
open Go Go.RowKit Go.Proofs.YtjklkphhfkdkpaaW.PrintWords Go.Proofs.YtjklkphhfkdkpaaW.PrintLast Go.Proofs.YtjklkphhfkdkpaaW.PrintMore Go.Proofs.Ytjklkphhfkdkpaa.P Go.Proofs.Ytjklkphhfkdkpaa.Gw Go.Proofs.Ytjklkphhfkdkpaa.Lk
set_option linter.unusedVariables false
set_option linter.unusedSimpArgs false
theorem FnClasses : laws_FnClasses.Pure := by
  intro l0 hm' hb hw
  apply Ev.rounds
  simp only [laws_FnClasses.f]
  by_cases hbig : (l0.length : Int) > 1048576
  · simp only [if_pos hbig]; exact Ev.now true
  simp only [if_neg hbig]
  obtain ⟨m, xs, h1, h5, hl, he⟩ := some_ev (by omega) hw
  have hd : Ev (fun k => spec_DrawPlainClasses.f k l0) ((m : Int), xs) := by unfold spec_DrawPlainClasses.f; exact Ev.bind he (Ev.now _)
  refine Ev.bind hd ?_
  cases hg : gOk (m : Int) xs with
  | false =>
    refine Ev.bind (impl_PlainClasses_no hl hg) (Ev.bind (spec_PlainClasses_no hl hg) ?_)
    simp only [bne_self_eq_false, Bool.false_eq_true, if_false, if_true, Bool.not_false]
    refine Ev.step (fun k => by simp only [laws_FnClasses.j0]; rfl) ?_
    simp only [if_true, beq_self_eq_true]; exact Ev.now _
  | true =>
    obtain ⟨m', es, hmm, rfl, hv⟩ := gOk_valid hg
    obtain rfl : m = m' := by omega
    obtain ⟨c1, c2⟩ := class_chk hv
    refine Ev.bind (impl_PlainClasses_ev hv) (Ev.bind (spec_PlainClasses_ev hv) ?_)
    simp only [bne_self_eq_false, Bool.false_eq_true, if_false, if_true, Bool.not_true]
    refine Ev.step (fun k => by simp only [laws_FnClasses.j0]; rfl) ?_
    simp only [Bool.false_eq_true, if_false]
    refine Ev.bind (implWayParts_ev hv) (Ev.bind (impl_PlainRoot_ev hv (v := 0) hv.pos) ?_)
    generalize cClasses m es = c at *
    generalize cRoot m es 0 = r at *
    generalize ufF m es = u at *
    simp only [if_true, if_pos (show (c : Int) ≥ 1 by omega)]
    by_cases hu : (u : Int) > 1
    · simp only [if_pos hu]; exact Ev.now _
    · have hrc : r = c := c2.resolve_left (by omega)
      simp only [if_neg hu, hrc, beq_self_eq_true]; exact Ev.now _
end Go.Proofs.Ytjklkphhfkdkpaa.Pure
