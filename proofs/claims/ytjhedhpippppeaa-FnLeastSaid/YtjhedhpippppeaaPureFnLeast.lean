/-
  FnLeast answers true: the least number of colours colours the graph, one fewer does not.
-/
import Derived.Test.YtjhedhpippppeaaLkDraw
import Derived.Test.YtjhedhpippppeaaSPlainColours
import Derived.Test.YtjhedhpippppeaaSPlainLeast
import Derived.Test.YtjhedhpippppeaaPx61
import Derived.Test.YtjhedhpippppeaaPx58
namespace Go.Proofs.Ytjhedhpippppeaa.Pure
open Go Go.RowKit Go.Proofs.YtjhedhpippppeaaW.PrintWords Go.Proofs.YtjhedhpippppeaaW.PrintLast Go.Proofs.YtjhedhpippppeaaW.PrintMore Go.Proofs.Ytjhedhpippppeaa.P Go.Proofs.Ytjhedhpippppeaa.Gw Go.Proofs.Ytjhedhpippppeaa.Lk
set_option linter.unusedVariables false
set_option linter.unusedSimpArgs false
theorem leastAt_facts {m : Nat} {es : Ed} (hv : Valid m es) : ∀ d j : Nat, 1 ≤ j → j + d = m → colV m es (j - 1) = 0 → 1 ≤ leastAt m es d j ∧ leastAt m es d j ≤ m ∧ colV m es (leastAt m es d j) ≠ 0 ∧ colV m es (leastAt m es d j - 1) = 0 := by
  intro d
  induction d with
  | zero =>
    intro j h1 hj h0
    obtain rfl : j = m := by omega
    exact ⟨h1, Nat.le_refl _, col_m hv, h0⟩
  | succ d ih =>
    intro j h1 hj h0
    rw [leastAt]
    by_cases h : colV m es j = 0
    · rw [if_pos h]; exact ih (j + 1) (by omega) (by omega) (by simpa using h)
    · rw [if_neg h]; exact ⟨h1, by omega, h, h0⟩
theorem FnLeast : laws_FnLeast.Pure := by
  intro l0 hm hb hw
  apply Ev.rounds
  simp only [laws_FnLeast.f]
  by_cases hbig : (l0.length : Int) > 1048576
  · simp only [if_pos hbig]; exact Ev.now true
  simp only [if_neg hbig]
  obtain ⟨m, xs, h1, h5, hl, he⟩ := some_ev (by omega) hw
  have hd : Ev (fun k => spec_DrawPlainLeast.f k l0) ((m : Int), xs) := by unfold spec_DrawPlainLeast.f; exact Ev.bind he (Ev.now _)
  refine Ev.bind hd ?_
  cases hg : gOk (m : Int) xs with
  | false =>
    refine Ev.bind (implLeast_no hl hg) (Ev.bind (specLeast_no hl hg) ?_)
    simp only [bne_self_eq_false, Bool.false_eq_true, if_false, if_true, Bool.not_false]
    refine Ev.step (fun k => by simp only [laws_FnLeast.j0]; rfl) ?_
    simp only [if_true, beq_self_eq_true]
    exact Ev.now _
  | true =>
    obtain ⟨m', es, hmm, rfl, hv⟩ := gOk_valid hg
    obtain rfl : m = m' := by omega
    obtain ⟨a1, a2, a3, a4⟩ := leastAt_facts hv (m - 1) 1 (by omega) (by omega) ((col_chk hv (x := 0) (by omega)).2.1 rfl)
    refine Ev.bind (implLeast_ev hv) (Ev.bind (specLeast_ev hv) ?_)
    simp only [bne_self_eq_false, Bool.false_eq_true, if_false, if_true, Bool.not_true]
    refine Ev.step (fun k => by simp only [laws_FnLeast.j0]; rfl) ?_
    simp only [Bool.false_eq_true, if_false]
    rw [show leastAt m es (m - 1) 1 = least m es from rfl] at a1 a2 a3 a4
    have c1 := implColours_ev hv ((least m es : Nat) : Int)
    have c2 := implColours_ev hv (wrap64 (((least m es : Nat) : Int) - 1))
    have hnn := (col_chk hv (x := least m es) (by omega)).1
    generalize least m es = q at *
    rw [if_pos (by omega), Int.toNat_natCast] at c1
    have e : wrap64 ((q : Int) - 1) = ((q - 1 : Nat) : Int) := by rw [wrap_id (by omega) (by omega)]; omega
    rw [e, if_pos (by omega), Int.toNat_natCast, a4] at c2
    refine Ev.bind c1 ?_
    rw [e]
    refine Ev.bind c2 ?_
    simp only [if_true, if_pos (show (q : Int) ≥ 1 by omega), if_pos (show colV m es q > 0 by omega), beq_self_eq_true]
    exact Ev.now _
end Go.Proofs.Ytjhedhpippppeaa.Pure
