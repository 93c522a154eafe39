/-
  FnFirstStrong answers true: the first strong direction is strong, and turned it is not before itself.
-/
import Derived.Test.YtomaibajmlfhhaaMFnFirstStrong
import Derived.Test.YtomaibajmlfhhaaPx50
import Derived.Test.YtomaibajmlfhhaaPx45
namespace Go.Proofs.Ytomaibajmlfhhaa.Pure
open Go Go.RowKit Go.Proofs.YtomaibajmlfhhaaW.PrintWords Go.Proofs.YtomaibajmlfhhaaW.PrintLast Go.Proofs.YtomaibajmlfhhaaW.PrintMore Go.Proofs.Ytomaibajmlfhhaa.P Go.Proofs.Ytomaibajmlfhhaa.Gw Go.Proofs.Ytomaibajmlfhhaa.Lk
set_option linter.unusedVariables false
set_option linter.unusedSimpArgs false
theorem firstFrom_spec (p : Nat → Bool) : ∀ d o : Nat, ((firstFrom p d o) = (0, false) ∧ ∀ x, o ≤ x → x < o + d → p x = false) ∨ ∃ q : Nat, firstFrom p d o = ((q : Int), true) ∧ p q = true ∧ o ≤ q ∧ q < o + d ∧ ∀ x, o ≤ x → x < q → p x = false
  | 0, o => .inl ⟨rfl, fun x h1 h2 => by omega⟩
  | d + 1, o => by
      rw [firstFrom]
      cases hp : p o with
      | true => exact .inr ⟨o, rfl, hp, Nat.le_refl _, by omega, fun x h1 h2 => by omega⟩
      | false =>
        rw [cond_false]
        rcases firstFrom_spec p d (o + 1) with ⟨h1, h2⟩ | ⟨q, h1, h2, h3, h4, h5⟩
        · refine .inl ⟨h1, fun x hx hx2 => ?_⟩
          by_cases e : x = o
          · subst e; exact hp
          · exact h2 x (by omega) (by omega)
        · refine .inr ⟨q, h1, h2, by omega, by omega, fun x hx hx2 => ?_⟩
          by_cases e : x = o
          · subst e; exact hp
          · exact h5 x (by omega) hx2
theorem FnFirstStrong : laws_FnFirstStrong.Pure := by
  intro l0 hm hb hw
  apply Ev.rounds
  simp only [laws_FnFirstStrong.f]
  by_cases hbig : (l0.length : Int) > 1048576
  · simp only [if_pos hbig]; exact Ev.now true
  simp only [if_neg hbig]
  obtain ⟨m, xs, h1, h5, hl, he⟩ := some_ev (by omega) hw
  have hd : Ev (fun k => spec_DrawStrongFirst.f k l0) ((m : Int), xs) := by unfold spec_DrawStrongFirst.f; exact Ev.bind he (Ev.now _)
  refine Ev.bind hd ?_
  cases hg : gOk (m : Int) xs with
  | false =>
    refine Ev.bind (impl_StrongFirst_no hl hg) (Ev.bind (spec_StrongFirst_no hl hg) ?_)
    simp only [bne_self_eq_false, Bool.false_eq_true, if_false, if_true, beq_self_eq_true]
    exact Ev.now _
  | true =>
    obtain ⟨m', es, hmm, rfl, hv⟩ := gOk_valid hg
    obtain rfl : m = m' := by omega
    refine Ev.bind (impl_StrongFirst_ev hv) (Ev.bind (spec_StrongFirst_ev hv) ?_)
    have hq := firstFrom_spec (fun o => strongF m (dirs es o)) (2 ^ es.length) 0
    rw [show firstFrom (fun o => strongF m (dirs es o)) (2 ^ es.length) 0 = sFirst m es from rfl] at hq
    rcases hq with ⟨e, _⟩ | ⟨q, e, q1, q2, q3, q4⟩
    · rw [e]
      simp only [bne_self_eq_false, Bool.false_eq_true, if_false, if_true, beq_self_eq_true]
      exact Ev.now _
    · rw [e]
      rw [Nat.zero_add] at q3
      have hs := impl_StrongIn_ev hv q3
      rw [show strongF m (dirs es q) = true from q1] at hs
      have hge : q ≤ tn es.length q := by
        apply Classical.byContradiction
        intro hlt
        have h3 := q4 (tn es.length q) (Nat.zero_le _) (by omega)
        simp only [dirs_tn es q q3, strongF, blk_rev] at h3
        simp only [strongF] at q1
        rw [q1] at h3; exact absurd h3 (by simp)
      have h10 := hv.len
      have hp := pow_le h10
      have hts : (toS es).length = es.length := toS_length es
      have hlt : 2 * q < 2 ^ es.length := by unfold tn at hge; omega
      have hfin : decide (wrap64 (2 * (q : Int)) < shl .i64 1 ((toS es).length : Int)) = true := by
        rw [hts, shl_nat (show es.length ≤ 61 by omega)]
        generalize 2 ^ es.length = p at *
        rw [wrap_id (by omega) (by omega)]
        exact decide_eq_true (by omega)
      simp only [bne_self_eq_false, Bool.false_eq_true, if_false, if_true]
      refine Ev.bind hs ?_
      simp only [if_true]
      by_cases hz : ((toS es).length : Int) = 0
      · simp only [if_pos hz]; exact Ev.now _
      · simp only [if_neg hz, hfin]; exact Ev.now _
end Go.Proofs.Ytomaibajmlfhhaa.Pure
