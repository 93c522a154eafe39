/-
  WayParts of the program and of the reference tell the same, for every graph.
-/
import Derived.Test.YtaoalmgcdmoohaaLkWayParts
import Derived.Test.YtaoalmgcdmoohaaLkRefParts
import Derived.Test.YtaoalmgcdmoohaaLkTurn
import Derived.Test.YtaoalmgcdmoohaaPx40
namespace Go.Proofs.Ytaoalmgcdmoohaa.Lk
open Go Go.RowKit Go.Proofs.YtaoalmgcdmoohaaW.PrintWords Go.Proofs.YtaoalmgcdmoohaaW.PrintLast Go.Proofs.YtaoalmgcdmoohaaW.PrintMore Go.Proofs.Ytaoalmgcdmoohaa.P Go.Proofs.Ytaoalmgcdmoohaa.Gw
set_option linter.unusedVariables false
set_option linter.unusedSimpArgs false
theorem refWayParts_no {n : Int} {ys : List S48} (hl : ys.length < 2 ^ 62) (hw : gOk n ys = false) : Ev (fun k => spec_WayParts.f k n ys) (0, false) := by
  unfold spec_WayParts.f; exact Ev.bind (spec_wayGraph hl) (by simpa [hw] using Ev.now _)
theorem refWayParts_ev {m : Nat} {es : Ed} (hv : Valid m es) : Ev (fun k => spec_WayParts.f k (m : Int) (toS es)) (((ufF m es : Nat) : Int), true) := by
  have hp := pow_le hv.len
  unfold spec_WayParts.f
  refine Ev.bind (spec_wayGraph (by rw [toS_length]; have := hv.len; omega)) ?_
  rw [valid_gOk_iff hv]
  simp only [if_true, all_eq hv, Option.bind_some]
  have h := refParts_ev hv (s := 2 ^ es.length - 1) (by omega)
  rw [sel_full] at h
  exact Ev.bind h (Ev.now _)
theorem same_WayParts (n : Int) (ys : List S48) (hl : ys.length < 2 ^ 62) : ∃ r, Ev (fun k => spec_WayParts.f k n ys) r ∧ Ev (fun k => impl_WayParts.f k n ys) r := by
  cases hw : gOk n ys with
  | false => exact ⟨_, refWayParts_no hl hw, implWayParts_no hl hw⟩
  | true =>
    obtain ⟨m, es, rfl, rfl, hv⟩ := gOk_valid hw
    exact ⟨_, refWayParts_ev hv, implWayParts_ev hv⟩
end Go.Proofs.Ytaoalmgcdmoohaa.Lk
