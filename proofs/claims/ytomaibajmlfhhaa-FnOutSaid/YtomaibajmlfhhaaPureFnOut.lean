/-
  FnOut answers true: what leads from a node and what leads to it are the edges at it.
-/
import Derived.Test.YtomaibajmlfhhaaMFnOut
import Derived.Test.YtomaibajmlfhhaaPx67
import Derived.Test.YtomaibajmlfhhaaPx63
namespace Go.Proofs.Ytomaibajmlfhhaa.Pure
open Go Go.RowKit Go.Proofs.YtomaibajmlfhhaaW.PrintWords Go.Proofs.YtomaibajmlfhhaaW.PrintLast Go.Proofs.YtomaibajmlfhhaaW.PrintMore Go.Proofs.Ytomaibajmlfhhaa.P Go.Proofs.Ytomaibajmlfhhaa.Gw Go.Proofs.Ytomaibajmlfhhaa.Lk
set_option linter.unusedVariables false
set_option linter.unusedSimpArgs false
theorem out_l1 {m : Nat} {es : Ed} (hv : Valid m es) (b : Nat) {v : Nat} (hvm : v < m)
    (hk : Ev (fun k => laws_FnOut.l0 k (toI (outsOf m (dirs es b))) (toI (outsOf m (rev (dirs es b)))) true ((v + 1 : Nat) : Int) (m : Int) (toS es)) true) : ∀ d i : Nat, i + d = es.length →
    Ev (fun k => laws_FnOut.l1 k (toI (outsOf m (dirs es b))) (toI (outsOf m (rev (dirs es b)))) true (v : Int) (((es.take i).countP (touches v) : Nat) : Int) (i : Int) (m : Int) (toS es)) true := by
  have h5 := hv.le
  have h10 := hv.len
  have hts : (toS es).length = es.length := toS_length es
  intro d
  induction d with
  | zero =>
    intro i hi
    have hboth := outs_both hv b v
    have hle : es.countP (touches v) ≤ es.length := List.countP_le_length
    have hw1 : wrap64 ((v : Int) + 1) = ((v + 1 : Nat) : Int) := by rw [wrap_id (by omega) (by omega)]; simp
    have hw2 : wrap64 ((((outsOf m (dirs es b)).getD v 0 : Nat) : Int) + (((outsOf m (rev (dirs es b))).getD v 0 : Nat) : Int)) = ((es.countP (touches v) : Nat) : Int) := by
      clear hw1; rw [wrap_id (by omega) (by omega)]; omega
    have g1 : ¬ ((i : Int) < ((toS es).length : Int)) := by clear hw1 hw2; omega
    have g2 : ¬ ((v : Int) ≥ ((toI (outsOf m (rev (dirs es b)))).length : Int)) := by clear hw1 hw2; rw [toI_length, outsOf_length]; omega
    have g3 : (v : Int) < ((toI (outsOf m (dirs es b))).length : Int) := by clear hw1 hw2; rw [toI_length, outsOf_length]; omega
    have g4 : (v : Int) < ((toI (outsOf m (rev (dirs es b)))).length : Int) := by clear hw1 hw2; rw [toI_length, outsOf_length]; omega
    refine Ev.step (fun k => ?_) hk
    simp only [laws_FnOut.l1]
    rw [List.take_of_length_le (by clear hw1 hw2; omega), if_neg g1, if_neg g2, if_pos (Int.natCast_nonneg v), if_pos g3, if_pos g4, rd_toI, rd_toI, if_pos hw2, hw1]
  | succ d ih =>
    intro i hi
    have hk2 := ih (i + 1) (by omega)
    have hil : i < es.length := by omega
    have hc : (es.take (i + 1)).countP (touches v) = (es.take i).countP (touches v) + (if touches v (es.getD i (0, 0)) = true then 1 else 0) := by
      rw [List.take_succ_eq_append_getElem hil, List.countP_append, List.countP_singleton, List.getD_eq_getElem?_getD, List.getElem?_eq_getElem hil]; rfl
    have hle : (es.take i).countP (touches v) ≤ (es.take i).length := List.countP_le_length
    rw [List.length_take] at hle
    rw [hc] at hk2
    have hw1 : wrap64 ((i : Int) + 1) = ((i + 1 : Nat) : Int) := by rw [wrap_id (by omega) (by omega)]; simp
    have hw2 : wrap64 ((((es.take i).countP (touches v) : Nat) : Int) + 1) = (((es.take i).countP (touches v) + 1 : Nat) : Int) := by clear hw1; rw [wrap_id (by omega) (by omega)]; simp
    have g1 : (i : Int) < ((toS es).length : Int) := by clear hw1 hw2; omega
    refine Ev.step (fun k => ?_) hk2
    simp only [laws_FnOut.l1]
    rw [if_pos g1, if_pos (Int.natCast_nonneg i), rd_toS, hw1, hw2]
    clear hw1 hw2 hc hk2 hk ih
    generalize es.getD i (0, 0) = e
    unfold touches
    by_cases h1 : e.1 = v
    · rw [if_pos (by simp only; omega), show (e.1 == v || e.2 == v) = true by simp [h1]]; simp
    · rw [if_neg (by simp only; omega)]
      by_cases h2 : e.2 = v
      · rw [if_pos (by simp only; omega), show (e.1 == v || e.2 == v) = true by simp [h2]]; simp
      · rw [if_neg (by simp only; omega), show (e.1 == v || e.2 == v) = false by simp [h1, h2]]; simp
theorem out_l0 {m : Nat} {es : Ed} (hv : Valid m es) (b : Nat) : ∀ d v : Nat, v + d = m →
    Ev (fun k => laws_FnOut.l0 k (toI (outsOf m (dirs es b))) (toI (outsOf m (rev (dirs es b)))) true (v : Int) (m : Int) (toS es)) true := by
  intro d
  induction d with
  | zero =>
    intro v hvm
    refine Ev.step (f := fun _ => some true) (fun k => ?_) (Ev.now _)
    simp only [laws_FnOut.l0, if_true]
    rw [if_neg (by rw [toI_length, outsOf_length]; omega), toI_length, outsOf_length, beq_self_eq_true]
  | succ d ih =>
    intro v hvm
    have h := out_l1 hv b (show v < m by omega) (ih (v + 1) (by omega)) es.length 0 (by omega)
    refine Ev.step (fun k => ?_) h
    simp only [laws_FnOut.l0]
    rw [if_pos (by rw [toI_length, outsOf_length]; omega)]; rfl
theorem FnOut : laws_FnOut.Pure := by
  intro l0 hm hb hw
  apply Ev.rounds
  simp only [laws_FnOut.f]
  by_cases hbig : (l0.length : Int) > 1048576
  · simp only [if_pos hbig]; exact Ev.now true
  simp only [if_neg hbig]
  obtain ⟨m, xs, o, h1, h5, hl, he⟩ := one_ev (by omega) hw
  have hd : Ev (fun k => spec_DrawWayOut.f k l0) ((m : Int), xs, o) := by unfold spec_DrawWayOut.f; exact Ev.bind he (Ev.now _)
  refine Ev.bind hd ?_
  cases hin : wIn (m : Int) xs o with
  | false =>
    refine Ev.bind (impl_WayOut_no hl hin) (Ev.bind (spec_WayOut_no hl hin) ?_)
    simp only [bne_self_eq_false, Bool.false_eq_true, if_false, Bool.not_false]
    refine Ev.bind (sameInts_ev (by simp)) ?_
    simp only [if_true]
    refine Ev.step (fun k => by simp only [laws_FnOut.j0]; rfl) ?_
    simp only [if_true, beq_self_eq_true]
    exact Ev.bind (sameInts_ev (by simp)) (Ev.now _)
  | true =>
    obtain ⟨m', es, b, hmm, rfl, hv, rfl, hb'⟩ := wIn_valid hin
    obtain rfl : m = m' := by omega
    have hlen : (toI (outsOf m (dirs es b))).length < 2 ^ 62 := by rw [toI_length, outsOf_length]; omega
    refine Ev.bind (impl_WayOut_ev hv hb') (Ev.bind (spec_WayOut_ev hv hb') ?_)
    simp only [bne_self_eq_false, Bool.false_eq_true, if_false, Bool.not_true]
    refine Ev.bind (sameInts_ev hlen) ?_
    simp only [if_true]
    refine Ev.step (fun k => by simp only [laws_FnOut.j0]; rfl) ?_
    simp only [Bool.false_eq_true, if_false]
    refine Ev.bind (impl_WayInto_ev hv hb') ?_
    exact out_l0 hv b m 0 (by omega)
end Go.Proofs.Ytomaibajmlfhhaa.Pure
