/-
  FnStrong answers true: strong directions are so turned, reach all nodes from each, and are full.
-/
import Derived.Test.YtomaibajmlfhhaaMFnStrong
import Derived.Test.YtomaibajmlfhhaaPx82
namespace Go.Proofs.Ytomaibajmlfhhaa.Pure
open Go Go.RowKit Go.Proofs.YtomaibajmlfhhaaW.PrintWords Go.Proofs.YtomaibajmlfhhaaW.PrintMore Go.Proofs.Ytomaibajmlfhhaa.P Go.Proofs.Ytomaibajmlfhhaa.Gw Go.Proofs.Ytomaibajmlfhhaa.Lk
set_option linter.unusedVariables false
set_option linter.unusedSimpArgs false
theorem strong_loop {m : Nat} {es : Ed} (hv : Valid m es) {b : Nat} (hb : b < 2 ^ es.length) (hs : blk m (dirs es b) 0 = 2 ^ m - 1) : ∀ d v : Nat, v + d = m →
    Ev (fun k => laws_FnStrong.l0 k (b : Int) ((tn es.length b : Nat) : Int) true (v : Int) (m : Int) (toS es)) true := by
  have h5 := hv.le
  have h1 := hv.pos
  have hR := dirs_inR hv.inR b
  have h0 := Nat.two_pow_pos m
  have hf : 2 ^ m ≤ 32 := Nat.pow_le_pow_right (n := 2) (j := 5) (by omega) h5
  have hwm : wrap64 (((2 ^ m : Nat) : Int) - 1) = ((2 ^ m - 1 : Nat) : Int) := by
    generalize 2 ^ m = p at *
    rw [wrap_id (by omega) (by omega)]; omega
  intro d
  induction d with
  | zero =>
    intro v hvm
    have h2 := impl_StrongIn_ev hv (b := tn es.length b) tn_lt
    rw [dirs_tn es b hb] at h2
    have h3 : strongF m (rev (dirs es b)) = true := by rw [strongF, blk_rev, hs]; simp
    rw [h3] at h2
    have h4 := iFull_ev hv hb
    rw [strong_full h5 hR hs] at h4
    refine Ev.step (fun k => rfl) ?_
    simp only [laws_FnStrong.l0, if_neg (show ¬ (v : Int) < (m : Int) by omega), if_true]
    refine Ev.bind h2 ?_
    simp only [if_true]
    exact Ev.bind h4 (Ev.now _)
  | succ d ih =>
    intro v hvm
    have hk := ih (v + 1) (by omega)
    have hw1 : wrap64 ((v : Int) + 1) = ((v + 1 : Nat) : Int) := by rw [wrap_id (by omega) (by omega)]; simp
    have hc := strong_close h5 hR hs (show v < m by omega)
    refine Ev.step (fun k => rfl) ?_
    simp only [laws_FnStrong.l0, if_pos (show (v : Int) < (m : Int) by omega)]
    refine Ev.bind (impl_WayReach_ev hv hb (by omega)) ?_
    simp only [if_true, if_pos (show 0 ≤ (m : Int) by omega), shl_nat (show m ≤ 61 by omega), hwm, hc, hw1]
    exact hk
theorem FnStrong : laws_FnStrong.Pure := by
  intro l0 hm hb hw
  apply Ev.rounds
  simp only [laws_FnStrong.f]
  by_cases hbig : (l0.length : Int) > 1048576
  · simp only [if_pos hbig]; exact Ev.now true
  simp only [if_neg hbig]
  obtain ⟨m, xs, o, h1, h5, hl, he⟩ := strongDraw_ev (by omega) hw
  refine Ev.bind he ?_
  cases hin : wIn (m : Int) xs o with
  | false =>
    refine Ev.bind (impl_StrongIn_no hl hin) (Ev.bind (spec_StrongIn_no hl hin) ?_)
    simp only [bne_self_eq_false, Bool.false_eq_true, if_false, Bool.not_false]
    refine Ev.step (fun k => rfl) ?_
    simp only [laws_FnStrong.j0, if_true, beq_self_eq_true]; exact Ev.now _
  | true =>
    obtain ⟨m', es, b, hmm, rfl, hv, rfl, hb⟩ := wIn_valid hin
    obtain rfl : m = m' := by omega
    have h5' := hv.le
    have hR := dirs_inR hv.inR b
    refine Ev.bind (impl_StrongIn_ev hv hb) (Ev.bind (spec_StrongIn_ev hv hb) ?_)
    cases hp : strongF m (dirs es b) with
    | false =>
      simp only [bne_self_eq_false, Bool.false_eq_true, if_false, Bool.not_false]
      refine Ev.step (fun k => rfl) ?_
      simp only [laws_FnStrong.j0, if_true, beq_self_eq_true]; exact Ev.now _
    | true =>
      simp only [bne_self_eq_false, Bool.false_eq_true, if_false, Bool.not_true]
      refine Ev.step (fun k => rfl) ?_
      simp only [laws_FnStrong.j0, Bool.false_eq_true, if_false]
      refine Ev.bind (wTurned_ev hv hb) ?_
      exact strong_loop hv hb (by simpa [strongF] using hp) m 0 (by omega)
end Go.Proofs.Ytomaibajmlfhhaa.Pure
