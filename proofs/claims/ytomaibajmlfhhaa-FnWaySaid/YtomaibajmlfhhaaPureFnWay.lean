/-
  FnWay answers true: turned it is a direction, and as many edges lead from all nodes as there are.
-/
import Derived.Test.YtomaibajmlfhhaaMFnWay
import Derived.Test.YtomaibajmlfhhaaPx44
import Derived.Test.YtomaibajmlfhhaaPx41
import Derived.Test.YtomaibajmlfhhaaPx43
namespace Go.Proofs.Ytomaibajmlfhhaa.Pure
open Go Go.RowKit Go.Proofs.YtomaibajmlfhhaaW.PrintWords Go.Proofs.YtomaibajmlfhhaaW.PrintLast Go.Proofs.YtomaibajmlfhhaaW.PrintMore Go.Proofs.Ytomaibajmlfhhaa.P Go.Proofs.Ytomaibajmlfhhaa.Gw Go.Proofs.Ytomaibajmlfhhaa.Lk
set_option linter.unusedVariables false
set_option linter.unusedSimpArgs false
theorem sum_take_le (l : List Nat) (i : Nat) : (l.take i).sum ≤ l.sum := by
  have := congrArg List.sum (List.take_append_drop i l)
  rw [List.sum_append] at this; omega
theorem total_ev {l : List Nat} (hl : l.length ≤ 100) (hs : l.sum ≤ 1000) : Ev (fun k => laws_total.f k (toI l)) ((l.sum : Nat) : Int) := by
  have key : ∀ d i : Nat, i + d = l.length → Ev (fun k => laws_total.l0 k (toI l) (((l.take i).sum : Nat) : Int) (i : Int)) ((l.sum : Nat) : Int) := by
    intro d
    induction d with
    | zero =>
      intro i hi
      refine Ev.step (f := fun _ => some ((l.sum : Nat) : Int)) (fun k => ?_) (Ev.now _)
      simp only [laws_total.l0]
      rw [if_neg (by rw [toI_length]; omega), List.take_of_length_le (by omega)]
    | succ d ih =>
      intro i hi
      have hk := ih (i + 1) (by omega)
      have hil : i < l.length := by omega
      have hsum : (l.take (i + 1)).sum = (l.take i).sum + l.getD i 0 := by
        rw [List.take_succ_eq_append_getElem hil, List.sum_append, List.getD_eq_getElem?_getD, List.getElem?_eq_getElem hil]; simp
      have hle := sum_take_le l (i + 1)
      have hw1 : wrap64 ((i : Int) + 1) = ((i + 1 : Nat) : Int) := by rw [wrap_id (by omega) (by omega)]; simp
      have hw2 : wrap64 ((((l.take i).sum : Nat) : Int) + ((l.getD i 0 : Nat) : Int)) = (((l.take (i + 1)).sum : Nat) : Int) := by
        clear hw1; rw [hsum, wrap_id (by omega) (by omega)]; simp
      have g1 : (i : Int) < ((toI l).length : Int) := by rw [toI_length]; exact Int.ofNat_lt.mpr hil
      refine Ev.step (fun k => ?_) hk
      simp only [laws_total.l0]
      rw [if_pos g1, if_pos (Int.natCast_nonneg i), rd_toI, hw1, hw2]
  have h := key l.length 0 (by omega)
  unfold laws_total.f; exact h
theorem FnWay : laws_FnWay.Pure := by
  intro l0 hm hb hw
  apply Ev.rounds
  simp only [laws_FnWay.f]
  by_cases hbig : (l0.length : Int) > 1048576
  · simp only [if_pos hbig]; exact Ev.now true
  simp only [if_neg hbig]
  obtain ⟨m, xs, o, h1, h5, hl, he⟩ := one_ev (by omega) hw
  have hd : Ev (fun k => spec_DrawWayIn.f k l0) ((m : Int), xs, o) := by unfold spec_DrawWayIn.f; exact Ev.bind he (Ev.now _)
  refine Ev.bind hd ?_
  have w1 := impl_wayIn (n := (m : Int)) (o := o) hl
  have w2 := spec_wayIn (n := (m : Int)) (o := o) hl
  cases hin : wIn (m : Int) xs o with
  | false =>
    rw [hin] at w1 w2
    refine Ev.bind w1 (Ev.bind w2 ?_)
    simp only [bne_self_eq_false, Bool.false_eq_true, if_false, Bool.not_false]
    refine Ev.step (fun k => by simp only [laws_FnWay.j0]; rfl) ?_
    simp only [if_true, beq_self_eq_true]; exact Ev.now _
  | true =>
    rw [hin] at w1 w2
    refine Ev.bind w1 (Ev.bind w2 ?_)
    obtain ⟨m', es, b, hmm, rfl, hv, rfl, hb'⟩ := wIn_valid hin
    obtain rfl : m = m' := by omega
    have w3 := impl_wayIn (n := (m : Int)) (o := ((tn es.length b : Nat) : Int)) hl
    rw [wIn_iff hv, decide_eq_true tn_lt] at w3
    have hsum := outs_sum (dirs_inR hv.inR b)
    rw [dirs_length] at hsum
    have ht := total_ev (l := outsOf m (dirs es b)) (by rw [outsOf_length]; omega) (by have := hv.len; omega)
    rw [hsum] at ht
    simp only [bne_self_eq_false, Bool.false_eq_true, if_false, Bool.not_true]
    refine Ev.step (fun k => by simp only [laws_FnWay.j0]; rfl) ?_
    simp only [Bool.false_eq_true, if_false]
    refine Ev.bind (wTurned_ev hv hb') (Ev.bind (impl_WayOut_ev hv hb') ?_)
    simp only [if_true]
    refine Ev.bind w3 ?_
    simp only [if_true]
    refine Ev.bind ht ?_
    rw [toS_length, beq_self_eq_true]; exact Ev.now _
end Go.Proofs.Ytomaibajmlfhhaa.Pure
