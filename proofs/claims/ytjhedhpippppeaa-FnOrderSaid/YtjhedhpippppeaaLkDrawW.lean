/-
  What the laws' drawing of a direction comes to: some number.
-/
import Derived.Test.YtjhedhpippppeaaLkDraw
import Derived.Test.YtjhedhpippppeaaPx7
namespace Go.Proofs.Ytjhedhpippppeaa.Lk
open Go Go.RowKit Go.Proofs.YtjhedhpippppeaaW.PrintWords Go.Proofs.YtjhedhpippppeaaW.PrintLast Go.Proofs.YtjhedhpippppeaaW.PrintMore Go.Proofs.Ytjhedhpippppeaa.P Go.Proofs.Ytjhedhpippppeaa.Gw
set_option linter.unusedVariables false
set_option linter.unusedSimpArgs false
theorem way_l {b : List Int} (h : Cod b) (n : Int) (xs : List S33) (hx : xs.length ≤ 100) : ∀ (d i : Nat), i + d = xs.length → ∀ (o : Int) (p : Nat), p + d ≤ 10000 →
    ∃ (o' : Int) (p' : Nat), p' ≤ p + d + 2 ∧ Ev (fun k => spec_l91Way.l0 k o (i : Int) b (p : Int) n xs) (o', (p' : Int)) := by
  intro d
  induction d with
  | zero =>
    intro i hi o p hp
    obtain ⟨r, _, _, hr⟩ := pick_ev h p (by omega) 40
    by_cases h0 : r = 0
    · obtain ⟨r2, _, _, hr2⟩ := pick_ev h (p + 1) (by omega) 2
      refine ⟨wrap64 (shl .i64 1 (xs.length : Int) - wrap64 (r2 * wrap64 (1 + shl .i64 1 (xs.length : Int)))), p + 1 + 1, by omega, Ev.step (fun k => rfl) ?_⟩
      simp only [spec_l91Way.l0, if_neg (show ¬ (i : Int) < (xs.length : Int) by omega)]
      refine Ev.bind hr ?_
      simp only [if_pos h0]
      exact Ev.bind hr2 (Ev.now _)
    · refine ⟨o, p + 1, by omega, Ev.step (fun k => rfl) ?_⟩
      simp only [spec_l91Way.l0, if_neg (show ¬ (i : Int) < (xs.length : Int) by omega)]
      refine Ev.bind hr ?_
      simp only [if_neg h0]; exact Ev.now _
  | succ d ih =>
    intro i hi o p hp
    obtain ⟨r, _, _, hr⟩ := pick_ev h p (by omega) 2
    obtain ⟨o', p', h1, h2⟩ := ih (i + 1) (by omega) (wrap64 (wrap64 (2 * o) + r)) (p + 1) (by omega)
    refine ⟨o', p', by omega, Ev.step (fun k => rfl) ?_⟩
    simp only [spec_l91Way.l0, if_pos (show (i : Int) < (xs.length : Int) by omega)]
    refine Ev.bind hr ?_
    have hw : wrap64 ((i : Int) + 1) = ((i + 1 : Nat) : Int) := by rw [wrap_id (by omega) (by omega)]; simp
    simp only [hw]; exact h2
theorem way_ev {b : List Int} (h : Cod b) {m : Nat} {xs : List S33} {p : Nat} (hd : Drawn m xs p) : ∃ (o : Int) (p' : Nat), p' ≤ 1000 ∧ Ev (fun k => spec_l91Way.f k b (p : Int) (m : Int) xs) (o, (p' : Int)) := by
  obtain ⟨o, p', h1, h2⟩ := way_l h (m : Int) xs hd.len xs.length 0 (by omega) 0 p (by have := hd.len; have := hd.at_; omega)
  exact ⟨o, p', by have := hd.len; have := hd.at_; omega, by unfold spec_l91Way.f; exact h2⟩
end Go.Proofs.Ytjhedhpippppeaa.Lk
