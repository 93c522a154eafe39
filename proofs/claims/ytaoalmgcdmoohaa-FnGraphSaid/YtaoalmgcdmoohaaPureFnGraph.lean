/-
  FnGraph answers true: every drawn graph has the direction 0 and the last one, and none behind it.
-/
import Derived.Test.YtaoalmgcdmoohaaLkDraw
import Derived.Test.YtaoalmgcdmoohaaLkIn
import Derived.Test.YtaoalmgcdmoohaaPx52
namespace Go.Proofs.Ytaoalmgcdmoohaa.Pure
open Go Go.RowKit Go.Proofs.YtaoalmgcdmoohaaW.PrintWords Go.Proofs.Ytaoalmgcdmoohaa.P Go.Proofs.Ytaoalmgcdmoohaa.Gw Go.Proofs.Ytaoalmgcdmoohaa.Lk
set_option linter.unusedVariables false
set_option linter.unusedSimpArgs false
theorem FnGraph : laws_FnGraph.Pure := by
  intro l0 hm hb hw
  apply Ev.rounds
  simp only [laws_FnGraph.f]
  by_cases hbig : (l0.length : Int) > 1048576
  · simp only [if_pos hbig]; exact Ev.now true
  simp only [if_neg hbig]
  obtain ⟨m, xs, h1, h5, hl, he⟩ := some_ev (by omega) hw
  have hd : Ev (fun k => spec_DrawWayGraph.f k l0) ((m : Int), xs) := by unfold spec_DrawWayGraph.f; exact Ev.bind he (Ev.now _)
  refine Ev.bind hd (Ev.bind (impl_wayGraph hl) (Ev.bind (spec_wayGraph hl) ?_))
  simp only [bne_self_eq_false, Bool.false_eq_true, if_false]
  cases hg : gOk (m : Int) xs with
  | false =>
    refine Ev.step (fun k => rfl) ?_
    simp only [laws_FnGraph.j0, Bool.not_false, if_true]; exact Ev.now _
  | true =>
    obtain ⟨m', es, hmm, rfl, hv⟩ := gOk_valid hg
    obtain rfl : m = m' := by omega
    refine Ev.step (fun k => rfl) ?_
    have hp := pow_le hv.len
    have h0 := Nat.two_pow_pos es.length
    have h10 := hv.len
    have hsh : shl .i64 1 ((toS es).length : Int) = ((2 ^ es.length : Nat) : Int) := by rw [toS_length]; exact shl_nat (by omega)
    have hs1 : wrap64 (((2 ^ es.length : Nat) : Int) - 1) = ((2 ^ es.length - 1 : Nat) : Int) := by
      generalize 2 ^ es.length = p at *
      rw [wrap_id (by omega) (by omega)]; omega
    simp only [laws_FnGraph.j0, Bool.not_true, Bool.false_eq_true, if_false, hsh, hs1]
    have w0 := wIn_iff hv 0
    have w1 := wIn_iff hv (2 ^ es.length - 1)
    have w2 := wIn_iff hv (2 ^ es.length)
    rw [decide_eq_true (by omega)] at w0 w1
    rw [decide_eq_false (by omega)] at w2
    refine Ev.bind (impl_wayIn (o := ((0 : Nat) : Int)) hl) ?_
    rw [w0]; simp only [if_true]
    refine Ev.bind (impl_wayIn hl) ?_
    rw [w1]; simp only [if_true]
    refine Ev.bind (impl_wayIn hl) ?_
    rw [w2]; exact Ev.now _
end Go.Proofs.Ytaoalmgcdmoohaa.Pure
