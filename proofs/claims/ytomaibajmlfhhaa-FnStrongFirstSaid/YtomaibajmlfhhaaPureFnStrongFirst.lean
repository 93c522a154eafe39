/-
  FnStrongFirst answers true: a strong direction is just in graphs of one part without bridges.
-/
import Derived.Test.YtomaibajmlfhhaaMFnStrongFirst
import Derived.Test.YtomaibajmlfhhaaPx39
import Derived.Test.YtomaibajmlfhhaaPx31
namespace Go.Proofs.Ytomaibajmlfhhaa.Pure
open Go Go.RowKit Go.Proofs.YtomaibajmlfhhaaW.PrintWords Go.Proofs.YtomaibajmlfhhaaW.PrintLast Go.Proofs.YtomaibajmlfhhaaW.PrintMore Go.Proofs.Ytomaibajmlfhhaa.P Go.Proofs.Ytomaibajmlfhhaa.Gw Go.Proofs.Ytomaibajmlfhhaa.Lk
set_option linter.unusedVariables false
set_option linter.unusedSimpArgs false
theorem firstFrom_spec (p : Nat → Bool) : ∀ d o : Nat, ((firstFrom p d o) = (0, false) ∧ ∀ x, o ≤ x → x < o + d → p x = false) ∨ ∃ q : Nat, firstFrom p d o = ((q : Int), true) ∧ p q = true ∧ o ≤ q ∧ q < o + d ∧ ∀ x, o ≤ x → x < q → p x = false
  | 0, o => .inl ⟨rfl, fun x h1 h2 => by omega⟩
  | d + 1, o => by
      rw [firstFrom]
      cases hp : p o with
      | true => exact .inr ⟨o, rfl, hp, Nat.le_refl _, by omega, fun x h1 h2 => by omega⟩
      | false =>
        rw [cond_false]
        rcases firstFrom_spec p d (o + 1) with ⟨h1, h2⟩ | ⟨q, h1, h2, h3, h4, h5⟩
        · refine .inl ⟨h1, fun x hx hx2 => ?_⟩
          by_cases e : x = o
          · subst e; exact hp
          · exact h2 x (by omega) (by omega)
        · refine .inr ⟨q, h1, h2, by omega, by omega, fun x hx hx2 => ?_⟩
          by_cases e : x = o
          · subst e; exact hp
          · exact h5 x (by omega) hx2
theorem noBr_iff (m : Nat) (es : Ed) : (((toI (bridgesUpto m es es.length)).length : Int) == 0) = noBr m es := by
  rw [Bool.eq_iff_iff, beq_iff_eq, toI_length, bridgesUpto, noBr, List.all_eq_true]
  constructor
  · intro h x hx
    have h0 : ((List.range es.length).filter (bridgeAt m es)).length = 0 := by omega
    have h1 := List.eq_nil_of_length_eq_zero h0
    have h2 := (List.filter_eq_nil_iff.mp h1) x hx
    rw [bridgeAt, decide_eq_true_eq] at h2
    rw [Bool.not_eq_true', Bool.eq_false_iff, ne_eq, Nat.ble_eq]
    omega
  · intro h
    have : (List.range es.length).filter (bridgeAt m es) = [] := by
      rw [List.filter_eq_nil_iff]
      intro x hx
      have h2 := h x hx
      rw [Bool.not_eq_true', Bool.eq_false_iff, ne_eq, Nat.ble_eq] at h2
      rw [bridgeAt, decide_eq_true_eq]; omega
    rw [this]; rfl
theorem FnStrongFirst : laws_FnStrongFirst.Pure := by
  intro l0 hm hb hw
  apply Ev.rounds
  simp only [laws_FnStrongFirst.f]
  by_cases hbig : (l0.length : Int) > 1048576
  · simp only [if_pos hbig]; exact Ev.now true
  simp only [if_neg hbig]
  obtain ⟨m, xs, h1, h5, hl, he⟩ := some_ev (by omega) hw
  have hd : Ev (fun k => spec_DrawWayGraph.f k l0) ((m : Int), xs) := by unfold spec_DrawWayGraph.f; exact Ev.bind he (Ev.now _)
  refine Ev.bind hd ?_
  have w1 := impl_wayGraph (n := (m : Int)) hl
  have w2 := spec_wayGraph (n := (m : Int)) hl
  cases hg : gOk (m : Int) xs with
  | false =>
    rw [hg] at w1 w2
    refine Ev.bind w1 (Ev.bind w2 ?_)
    simp only [bne_self_eq_false, Bool.false_eq_true, if_false, Bool.not_false]
    refine Ev.step (fun k => by simp only [laws_FnStrongFirst.j0]; rfl) ?_
    simp only [if_true, beq_self_eq_true]; exact Ev.now _
  | true =>
    rw [hg] at w1 w2
    refine Ev.bind w1 (Ev.bind w2 ?_)
    obtain ⟨m', es, hmm, rfl, hv⟩ := gOk_valid hg
    obtain rfl : m = m' := by omega
    simp only [bne_self_eq_false, Bool.false_eq_true, if_false, Bool.not_true]
    refine Ev.step (fun k => by simp only [laws_FnStrongFirst.j0]; rfl) ?_
    simp only [Bool.false_eq_true, if_false]
    refine Ev.bind (impl_StrongFirst_ev hv) (Ev.bind (implWayParts_ev hv) (Ev.bind (impl_StrongBridges_ev hv) ?_))
    have hc := strong_chk hv
    simp only [if_true, noBr_iff]
    have hq := firstFrom_spec (fun o => strongF m (dirs es o)) (2 ^ es.length) 0
    rw [show firstFrom (fun o => strongF m (dirs es o)) (2 ^ es.length) 0 = sFirst m es from rfl] at hq
    rcases hq with ⟨e, q0⟩ | ⟨q, e, q1, q2, q3, q4⟩
    · rw [e]
      by_cases hu : ((ufF m es : Nat) : Int) = 1
      · have hn : noBr m es = false := by
          rw [Bool.eq_false_iff]; intro hn
          obtain ⟨o, o1, o2⟩ := hc.mpr ⟨by omega, hn⟩
          have := q0 o (Nat.zero_le _) (by omega)
          simp only [strongF, o2, beq_self_eq_true] at this
          exact absurd this (by simp)
        simp only [if_pos hu, hn, beq_self_eq_true, if_true, Bool.false_eq_true, if_false]; exact Ev.now _
      · simp only [if_neg hu, beq_self_eq_true, if_true, Bool.false_eq_true, if_false]; exact Ev.now _
    · rw [e]
      rw [Nat.zero_add] at q3
      obtain ⟨c1, c2⟩ := hc.mp ⟨q, q3, by simpa [strongF] using q1⟩
      have hs := impl_StrongIn_ev hv q3
      rw [show strongF m (dirs es q) = true from q1] at hs
      simp only [if_pos (show ((ufF m es : Nat) : Int) = 1 by omega), c2, beq_self_eq_true, if_true]
      exact Ev.bind hs (Ev.now _)
end Go.Proofs.Ytomaibajmlfhhaa.Pure
