/-
  WaySinks of the program and of the reference tell the same, for every graph and number.
-/
import Derived.Test.YtomaibajmlfhhaaLkSinks
import Derived.Test.YtomaibajmlfhhaaLkRefSinks
import Derived.Test.YtomaibajmlfhhaaPx58
import Derived.Test.YtomaibajmlfhhaaPx61
namespace Go.Proofs.Ytomaibajmlfhhaa.Lk
open Go Go.RowKit Go.Proofs.YtomaibajmlfhhaaW.PrintWords Go.Proofs.YtomaibajmlfhhaaW.PrintLast Go.Proofs.YtomaibajmlfhhaaW.PrintMore Go.Proofs.Ytomaibajmlfhhaa.P Go.Proofs.Ytomaibajmlfhhaa.Gw
set_option linter.unusedVariables false
set_option linter.unusedSimpArgs false
theorem lenWaySinks {m : Nat} {es : Ed} (hv : Valid m es) : (toS es).length < 2 ^ 62 := by rw [toS_length]; have := hv.len; omega
theorem impl_WaySinks_no {n o : Int} {ys : List S34} (hl : ys.length < 2 ^ 62) (hw : wIn n ys o = false) : Ev (fun k => impl_WaySinks.f k n ys o) (0, false) := by
  unfold impl_WaySinks.f; exact Ev.bind (impl_wayIn hl) (by simpa [hw] using Ev.now _)
theorem spec_WaySinks_no {n o : Int} {ys : List S34} (hl : ys.length < 2 ^ 62) (hw : wIn n ys o = false) : Ev (fun k => spec_WaySinks.f k n ys o) (0, false) := by
  unfold spec_WaySinks.f; exact Ev.bind (spec_wayIn hl) (by simpa [hw] using Ev.now _)
theorem impl_WaySinks_ev {m : Nat} {es : Ed} (hv : Valid m es) {b : Nat} (hb : b < 2 ^ es.length) : Ev (fun k => impl_WaySinks.f k (m : Int) (toS es) (b : Int)) (((sinksF (rowsOf m (dirs es b)) : Nat) : Int), true) := by
  unfold impl_WaySinks.f
  refine Ev.bind (impl_wayIn (lenWaySinks hv)) ?_
  rw [wIn_iff hv, decide_eq_true hb]
  simp only [if_true]
  exact Ev.bind (sinksOf_ev hv hb) (Ev.now _)
theorem spec_WaySinks_ev {m : Nat} {es : Ed} (hv : Valid m es) {b : Nat} (hb : b < 2 ^ es.length) : Ev (fun k => spec_WaySinks.f k (m : Int) (toS es) (b : Int)) (((sinksF (rowsOf m (dirs es b)) : Nat) : Int), true) := by
  unfold spec_WaySinks.f
  refine Ev.bind (spec_wayIn (lenWaySinks hv)) ?_
  rw [wIn_iff hv, decide_eq_true hb]
  simp only [if_true]
  exact Ev.bind (refSinks_ev hv hb) (Ev.now _)
theorem same_WaySinks (n : Int) (ys : List S34) (o : Int) (hl : ys.length < 2 ^ 62) : ∃ r, Ev (fun k => spec_WaySinks.f k n ys o) r ∧ Ev (fun k => impl_WaySinks.f k n ys o) r := by
  cases hw : wIn n ys o with
  | false => exact ⟨_, spec_WaySinks_no hl hw, impl_WaySinks_no hl hw⟩
  | true =>
    obtain ⟨m, es, b, rfl, rfl, hv, rfl, hb⟩ := wIn_valid hw
    exact ⟨_, spec_WaySinks_ev hv hb, impl_WaySinks_ev hv hb⟩
end Go.Proofs.Ytomaibajmlfhhaa.Lk
