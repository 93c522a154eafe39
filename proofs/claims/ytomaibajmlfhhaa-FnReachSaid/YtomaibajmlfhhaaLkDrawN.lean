/-
  What drawing a graph, a direction and a node comes to.
-/
import Derived.Test.YtomaibajmlfhhaaLkDrawP
import Derived.Test.YtomaibajmlfhhaaPx22
namespace Go.Proofs.Ytomaibajmlfhhaa.Lk
open Go Go.RowKit Go.Proofs.YtomaibajmlfhhaaW.PrintWords Go.Proofs.YtomaibajmlfhhaaW.PrintLast Go.Proofs.YtomaibajmlfhhaaW.PrintMore Go.Proofs.Ytomaibajmlfhhaa.P Go.Proofs.Ytomaibajmlfhhaa.Gw
set_option linter.unusedVariables false
set_option linter.unusedSimpArgs false
theorem node_ev {l : List Int} (hl : l.length ≤ 1048576) (hb : ∀ x ∈ l, (Lit.int .u8 x).wf = true) : ∃ (m : Nat) (xs : List S34) (o v : Int), 1 ≤ m ∧ m ≤ 5 ∧ xs.length < 2 ^ 62 ∧ Ev (fun k => spec_l91Node.f k l) ((m : Int), xs, o, v) := by
  obtain ⟨b, hc, ho⟩ := open_ev hl hb
  obtain ⟨m, xs, p, hd, he⟩ := graph_ev hc
  obtain ⟨o, p', hp', hw⟩ := plainW_ev hc hd
  obtain ⟨r1, _, _, e1⟩ := pick_ev hc p' (by omega) 24
  obtain ⟨r2, _, _, e2⟩ := pick_ev hc (p' + 1) (by omega) (wrap64 ((m : Int) + wrap64 (Int.tdiv r1 23)))
  obtain ⟨r3, _, _, e3⟩ := pick_ev hc (p' + 1 + 1) (by omega) 24
  refine ⟨m, xs, o, wrap64 (r2 - wrap64 (Int.tdiv r3 23)), hd.pos, hd.le, by have := hd.len; omega, ?_⟩
  unfold spec_l91Node.f
  simp only [ho, Option.bind_some]
  exact Ev.bind he (Ev.bind hw (Ev.bind e1 (Ev.bind e2 (Ev.bind e3 (Ev.now _)))))
end Go.Proofs.Ytomaibajmlfhhaa.Lk
