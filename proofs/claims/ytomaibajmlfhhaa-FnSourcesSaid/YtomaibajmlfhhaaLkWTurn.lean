/-
  The program's WayTurned.
-/
import Derived.Test.YtomaibajmlfhhaaLkTurn
import Derived.Test.YtomaibajmlfhhaaPx42
namespace Go.Proofs.Ytomaibajmlfhhaa.Lk
open Go Go.RowKit Go.Proofs.YtomaibajmlfhhaaW.PrintWords Go.Proofs.YtomaibajmlfhhaaW.PrintLast Go.Proofs.YtomaibajmlfhhaaW.PrintMore Go.Proofs.Ytomaibajmlfhhaa.P Go.Proofs.Ytomaibajmlfhhaa.Gw
set_option linter.unusedVariables false
set_option linter.unusedSimpArgs false
theorem wTurned_ev {m : Nat} {es : Ed} (hv : Valid m es) {b : Nat} (hb : b < 2 ^ es.length) : Ev (fun k => impl_WayTurned.f k (m : Int) (toS es) (b : Int)) (((tn es.length b : Nat) : Int), true) := by
  unfold impl_WayTurned.f
  refine Ev.bind (impl_wayIn (by rw [toS_length]; have := hv.len; omega)) ?_
  rw [wIn_iff hv, decide_eq_true hb]
  simp only [if_true, turned_eq hv hb, Option.bind_some]; exact Ev.now _
end Go.Proofs.Ytomaibajmlfhhaa.Lk
