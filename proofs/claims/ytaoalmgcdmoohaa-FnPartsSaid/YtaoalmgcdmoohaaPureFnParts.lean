/-
  FnParts answers true: parts are from 1 to the nodes, and at least the nodes less the edges.
-/
import Derived.Test.YtaoalmgcdmoohaaLkDraw
import Derived.Test.YtaoalmgcdmoohaaSWayParts
import Derived.Test.YtaoalmgcdmoohaaPx58
import Derived.Test.YtaoalmgcdmoohaaPx57
namespace Go.Proofs.Ytaoalmgcdmoohaa.Pure
open Go Go.RowKit Go.Proofs.YtaoalmgcdmoohaaW.PrintWords Go.Proofs.Ytaoalmgcdmoohaa.P Go.Proofs.Ytaoalmgcdmoohaa.Gw Go.Proofs.Ytaoalmgcdmoohaa.Lk
set_option linter.unusedVariables false
set_option linter.unusedSimpArgs false
theorem FnParts : laws_FnParts.Pure := by
  intro l0 hm hb hw
  apply Ev.rounds
  simp only [laws_FnParts.f]
  by_cases hbig : (l0.length : Int) > 1048576
  · simp only [if_pos hbig]; exact Ev.now true
  simp only [if_neg hbig]
  obtain ⟨m, xs, h1, h5, hl, he⟩ := some_ev (by omega) hw
  have hd : Ev (fun k => spec_DrawWayParts.f k l0) ((m : Int), xs) := by unfold spec_DrawWayParts.f; exact Ev.bind he (Ev.now _)
  refine Ev.bind hd ?_
  cases hg : gOk (m : Int) xs with
  | false =>
    refine Ev.bind (implWayParts_no hl hg) (Ev.bind (refWayParts_no hl hg) ?_)
    simpa using Ev.now true
  | true =>
    obtain ⟨m', es, hmm, rfl, hv⟩ := gOk_valid hg
    obtain rfl : m = m' := by omega
    refine Ev.bind (implWayParts_ev hv) (Ev.bind (refWayParts_ev hv) ?_)
    obtain ⟨_, p1, p2, p3⟩ := parts_chk hv
    have h10 := hv.len
    simp only [bne_self_eq_false, Bool.false_eq_true, if_false, if_true, if_pos (show ((ufF m es : Nat) : Int) ≥ 1 by omega), if_pos (show ((ufF m es : Nat) : Int) ≤ (m : Int) by omega)]
    rw [wrap_id (by omega) (by omega), decide_eq_true (by rw [toS_length]; omega)]
    exact Ev.now _
end Go.Proofs.Ytaoalmgcdmoohaa.Pure
