/-
  What drawing a graph and a direction that is often plain comes to.
-/
import Derived.Test.YtjhedhpippppeaaLkDrawP
import Derived.Test.YtjhedhpippppeaaPx9
namespace Go.Proofs.Ytjhedhpippppeaa.Lk
open Go Go.RowKit Go.Proofs.YtjhedhpippppeaaW.PrintWords Go.Proofs.YtjhedhpippppeaaW.PrintLast Go.Proofs.YtjhedhpippppeaaW.PrintMore Go.Proofs.Ytjhedhpippppeaa.P Go.Proofs.Ytjhedhpippppeaa.Gw
set_option linter.unusedVariables false
set_option linter.unusedSimpArgs false
theorem two_ev {l : List Int} (hl : l.length ≤ 1048576) (hb : ∀ x ∈ l, (Lit.int .u8 x).wf = true) : ∃ (m : Nat) (xs : List S33) (o : Int), 1 ≤ m ∧ m ≤ 5 ∧ xs.length < 2 ^ 62 ∧ Ev (fun k => spec_l91Two.f k l) ((m : Int), xs, o) := by
  obtain ⟨b, hc, ho⟩ := open_ev hl hb
  obtain ⟨m, xs, p, hd, he⟩ := graph_ev hc
  obtain ⟨o, p', _, hw⟩ := plainW_ev hc hd
  refine ⟨m, xs, o, hd.pos, hd.le, by have := hd.len; omega, ?_⟩
  unfold spec_l91Two.f
  simp only [ho, Option.bind_some]
  exact Ev.bind he (Ev.bind hw (Ev.now _))
end Go.Proofs.Ytjhedhpippppeaa.Lk
