/-
  WayFlip of the program and of the reference tell the same, for every graph and numbers.
-/
import Derived.Test.YtaoalmgcdmoohaaLkIn
import Derived.Test.YtaoalmgcdmoohaaPx17
import Derived.Test.YtaoalmgcdmoohaaPx18
namespace Go.Proofs.Ytaoalmgcdmoohaa.Lk
open Go Go.RowKit Go.Proofs.YtaoalmgcdmoohaaW.PrintWords Go.Proofs.YtaoalmgcdmoohaaW.PrintLast Go.Proofs.YtaoalmgcdmoohaaW.PrintMore Go.Proofs.Ytaoalmgcdmoohaa.P Go.Proofs.Ytaoalmgcdmoohaa.Gw
set_option linter.unusedVariables false
set_option linter.unusedSimpArgs false
theorem same_WayFlip (n : Int) (ys : List S48) (o i : Int) (hl : ys.length < 2 ^ 62) : ∃ r, Ev (fun k => spec_WayFlip.f k n ys o i) r ∧ Ev (fun k => impl_WayFlip.f k n ys o i) r := by
  unfold spec_WayFlip.f impl_WayFlip.f
  cases hw : wIn n ys o with
  | false => exact ⟨(0, false), Ev.bind (spec_wayIn hl) (by simpa [hw] using Ev.now _), Ev.bind (impl_wayIn hl) (by simpa [hw] using Ev.now _)⟩
  | true =>
    have hlen : wrap64 ((ys.length : Int) - 1) = (ys.length : Int) - 1 := wrap_id (by omega) (by omega)
    by_cases h1 : i < 0
    · refine ⟨(0, false), Ev.bind (spec_wayIn hl) ?_, Ev.bind (impl_wayIn hl) ?_⟩
      · simp only [hw, if_true, l6In_eq, Option.bind_some, decide_eq_false (show ¬ 0 ≤ i by omega), Bool.false_and, Bool.false_eq_true, if_false]; exact Ev.now _
      · simp only [hw, if_true, if_pos h1]; exact Ev.now _
    · by_cases h2 : i ≥ (ys.length : Int)
      · refine ⟨(0, false), Ev.bind (spec_wayIn hl) ?_, Ev.bind (impl_wayIn hl) ?_⟩
        · simp only [hw, if_true, l6In_eq, Option.bind_some, hlen, decide_eq_false (show ¬ i ≤ (ys.length : Int) - 1 by omega), Bool.and_false, Bool.false_eq_true, if_false]; exact Ev.now _
        · simp only [hw, if_true, if_neg h1, if_pos h2]; exact Ev.now _
      · refine ⟨(Go.bits .xor .i64 o (shl .i64 1 i), true), Ev.bind (spec_wayIn hl) ?_, Ev.bind (impl_wayIn hl) ?_⟩
        · simp only [hw, if_true, l6In_eq, Option.bind_some, hlen, decide_eq_true (show 0 ≤ i by omega), decide_eq_true (show i ≤ (ys.length : Int) - 1 by omega), Bool.and_true, if_pos (show 0 ≤ i by omega)]; exact Ev.now _
        · simp only [hw, if_true, if_neg h1, if_neg h2, if_pos (show 0 ≤ i by omega)]; exact Ev.now _
end Go.Proofs.Ytaoalmgcdmoohaa.Lk
