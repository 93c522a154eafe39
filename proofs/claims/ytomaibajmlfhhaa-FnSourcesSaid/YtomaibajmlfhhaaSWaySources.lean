/-
  WaySources of the program and of the reference tell the same, for every graph and number.
-/
import Derived.Test.YtomaibajmlfhhaaLkSinks
import Derived.Test.YtomaibajmlfhhaaLkRefSinks
import Derived.Test.YtomaibajmlfhhaaLkTurn
import Derived.Test.YtomaibajmlfhhaaPx54
import Derived.Test.YtomaibajmlfhhaaPx57
namespace Go.Proofs.Ytomaibajmlfhhaa.Lk
open Go Go.RowKit Go.Proofs.YtomaibajmlfhhaaW.PrintWords Go.Proofs.YtomaibajmlfhhaaW.PrintLast Go.Proofs.YtomaibajmlfhhaaW.PrintMore Go.Proofs.Ytomaibajmlfhhaa.P Go.Proofs.Ytomaibajmlfhhaa.Gw
set_option linter.unusedVariables false
set_option linter.unusedSimpArgs false
theorem lenWaySources {m : Nat} {es : Ed} (hv : Valid m es) : (toS es).length < 2 ^ 62 := by rw [toS_length]; have := hv.len; omega
theorem impl_WaySources_no {n o : Int} {ys : List S34} (hl : ys.length < 2 ^ 62) (hw : wIn n ys o = false) : Ev (fun k => impl_WaySources.f k n ys o) (0, false) := by
  unfold impl_WaySources.f; exact Ev.bind (impl_wayIn hl) (by simpa [hw] using Ev.now _)
theorem spec_WaySources_no {n o : Int} {ys : List S34} (hl : ys.length < 2 ^ 62) (hw : wIn n ys o = false) : Ev (fun k => spec_WaySources.f k n ys o) (0, false) := by
  unfold spec_WaySources.f; exact Ev.bind (spec_wayIn hl) (by simpa [hw] using Ev.now _)
theorem impl_WaySources_ev {m : Nat} {es : Ed} (hv : Valid m es) {b : Nat} (hb : b < 2 ^ es.length) : Ev (fun k => impl_WaySources.f k (m : Int) (toS es) (b : Int)) (((sinksF (rowsOf m (rev (dirs es b))) : Nat) : Int), true) := by
  unfold impl_WaySources.f
  refine Ev.bind (impl_wayIn (lenWaySources hv)) ?_
  rw [wIn_iff hv, decide_eq_true hb]
  simp only [if_true]
  simp only [turned_eq hv hb, Option.bind_some]
  have h := sinksOf_ev hv (b := tn es.length b) tn_lt
  rw [dirs_tn es b hb] at h
  exact Ev.bind h (Ev.now _)
theorem spec_WaySources_ev {m : Nat} {es : Ed} (hv : Valid m es) {b : Nat} (hb : b < 2 ^ es.length) : Ev (fun k => spec_WaySources.f k (m : Int) (toS es) (b : Int)) (((sinksF (rowsOf m (rev (dirs es b))) : Nat) : Int), true) := by
  unfold spec_WaySources.f
  refine Ev.bind (spec_wayIn (lenWaySources hv)) ?_
  rw [wIn_iff hv, decide_eq_true hb]
  simp only [if_true]
  simp only [all_eq hv, sub_eq hv hb, Option.bind_some]
  have h := refSinks_ev hv (b := tn es.length b) tn_lt
  rw [dirs_tn es b hb] at h
  exact Ev.bind h (Ev.now _)
theorem same_WaySources (n : Int) (ys : List S34) (o : Int) (hl : ys.length < 2 ^ 62) : ∃ r, Ev (fun k => spec_WaySources.f k n ys o) r ∧ Ev (fun k => impl_WaySources.f k n ys o) r := by
  cases hw : wIn n ys o with
  | false => exact ⟨_, spec_WaySources_no hl hw, impl_WaySources_no hl hw⟩
  | true =>
    obtain ⟨m, es, b, rfl, rfl, hv, rfl, hb⟩ := wIn_valid hw
    exact ⟨_, spec_WaySources_ev hv hb, impl_WaySources_ev hv hb⟩
end Go.Proofs.Ytomaibajmlfhhaa.Lk
