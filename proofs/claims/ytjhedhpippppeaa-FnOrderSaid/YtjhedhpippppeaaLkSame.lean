/-
  laws.sameInts: a list is the same as itself.
-/
import Derived.Test.YtjhedhpippppeaaLkG
import Derived.Test.YtjhedhpippppeaaPx24
namespace Go.Proofs.Ytjhedhpippppeaa.Lk
open Go Go.RowKit Go.Proofs.YtjhedhpippppeaaW.PrintWords Go.Proofs.YtjhedhpippppeaaW.PrintLast Go.Proofs.YtjhedhpippppeaaW.PrintMore Go.Proofs.Ytjhedhpippppeaa.P Go.Proofs.Ytjhedhpippppeaa.Gw
set_option linter.unusedVariables false
set_option linter.unusedSimpArgs false
theorem sameInts_ev {l : List Int} (h : l.length < 2 ^ 62) : Ev (fun k => laws_sameInts.f k l l) true := by
  have key : ∀ (d i : Nat), i + d = l.length → Ev (fun k => laws_sameInts.l0 k l l (i : Int)) true := by
    intro d
    induction d with
    | zero => intro i hi; refine Ev.step (f := fun _ => some true) (fun k => ?_) (Ev.now _); simp only [laws_sameInts.l0]; rw [if_neg (by omega)]
    | succ d ih =>
      intro i hi
      have hk := ih (i + 1) (by omega)
      have hw1 : wrap64 ((i : Int) + 1) = ((i + 1 : Nat) : Int) := by rw [wrap_id (by omega) (by omega)]; simp
      refine Ev.step (fun k => ?_) hk
      simp only [laws_sameInts.l0]
      rw [if_pos (by omega), if_pos (by omega), if_pos (by omega), if_pos (by trivial), hw1]
  unfold laws_sameInts.f
  simp only [if_true]
  exact key l.length 0 (by omega)
end Go.Proofs.Ytjhedhpippppeaa.Lk
