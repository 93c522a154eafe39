/-
  PlainPoly of the program and of the reference tell the same, for every graph.
-/
import Derived.Test.YtjhedhpippppeaaLkIPoly
import Derived.Test.YtjhedhpippppeaaLkRPoly
import Derived.Test.YtjhedhpippppeaaPx37
namespace Go.Proofs.Ytjhedhpippppeaa.Lk
open Go Go.RowKit Go.Proofs.YtjhedhpippppeaaW.PrintWords Go.Proofs.YtjhedhpippppeaaW.PrintLast Go.Proofs.YtjhedhpippppeaaW.PrintMore Go.Proofs.Ytjhedhpippppeaa.P Go.Proofs.Ytjhedhpippppeaa.Gw
set_option linter.unusedVariables false
set_option linter.unusedSimpArgs false
theorem specPoly_no {n : Int} {ys : List S33} (hl : ys.length < 2 ^ 62) (hw : gOk n ys = false) : Ev (fun k => spec_PlainPoly.f k n ys) ([], false) := by
  unfold spec_PlainPoly.f; exact Ev.bind (spec_wayGraph hl) (by simpa [hw] using Ev.now _)
theorem specPoly_ev {m : Nat} {es : Ed} (hv : Valid m es) : Ev (fun k => spec_PlainPoly.f k (m : Int) (toS es)) (polyL m es, true) := by
  unfold spec_PlainPoly.f
  refine Ev.bind (spec_wayGraph (by rw [toS_length]; have := hv.len; omega)) ?_
  rw [valid_gOk_iff hv]
  simp only [if_true]
  exact Ev.bind (refPoly_ev hv) (Ev.now _)
theorem same_PlainPoly (n : Int) (ys : List S33) (hl : ys.length < 2 ^ 62) : ∃ r : List Int × Bool, Ev (fun k => spec_PlainPoly.f k n ys) r ∧ Ev (fun k => impl_PlainPoly.f k n ys) r ∧ r.1.length ≤ 1000 := by
  cases hw : gOk n ys with
  | false => exact ⟨_, specPoly_no hl hw, implPoly_no hl hw, by simp⟩
  | true =>
    obtain ⟨m, es, rfl, rfl, hv⟩ := gOk_valid hw
    exact ⟨_, specPoly_ev hv, implPoly_ev hv, by rw [polyL_len]; have := hv.le; omega⟩
end Go.Proofs.Ytjhedhpippppeaa.Lk
