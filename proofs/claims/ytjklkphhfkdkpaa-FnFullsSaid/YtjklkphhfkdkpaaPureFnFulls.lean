/-
  FnFulls answers true: no full direction just with a bridge.
-/
import Derived.Test.YtjklkphhfkdkpaaMFnFulls
import Derived.Test.YtjklkphhfkdkpaaPx49
import Derived.Test.YtjklkphhfkdkpaaPx46
namespace Go.Proofs.Ytjklkphhfkdkpaa.Pure
open Go Go.RowKit Go.Proofs.YtjklkphhfkdkpaaW.PrintWords Go.Proofs.YtjklkphhfkdkpaaW.PrintLast Go.Proofs.YtjklkphhfkdkpaaW.PrintMore Go.Proofs.Ytjklkphhfkdkpaa.P Go.Proofs.Ytjklkphhfkdkpaa.Gw Go.Proofs.Ytjklkphhfkdkpaa.Lk
set_option linter.unusedVariables false
set_option linter.unusedSimpArgs false
theorem cnt_zero_iff (p : Nat → Bool) : ∀ n, cntP p n = 0 ↔ ¬ ∃ o, o < n ∧ p o = true
  | 0 => by simp [cntP]
  | n + 1 => by
      have ih := cnt_zero_iff p n
      rw [cntP]
      cases hp : p n with
      | true =>
        simp only [cond_true]
        constructor
        · intro h; omega
        · intro h; exact absurd ⟨n, by omega, hp⟩ h
      | false =>
        simp only [cond_false, Nat.zero_add, ih]
        constructor
        · rintro h ⟨o, h1, h2⟩
          by_cases e : o = n
          · subst e; rw [hp] at h2; exact absurd h2 (by simp)
          · exact h ⟨o, by omega, h2⟩
        · rintro h ⟨o, h1, h2⟩; exact h ⟨o, by omega, h2⟩
theorem br_pos (m : Nat) (es : Ed) : decide (((toI (bridgesUpto m es es.length)).length : Int) > 0) = !noBr m es := by
  have : (((toI (bridgesUpto m es es.length)).length : Int) > 0) ↔ ¬ noBr m es = true := by
    rw [toI_length, bridgesUpto, noBr, List.all_eq_true]
    constructor
    · intro h hall
      have : (List.range es.length).filter (bridgeAt m es) = [] := by
        rw [List.filter_eq_nil_iff]
        intro x hx
        have h2 := hall x hx
        rw [Bool.not_eq_true', Bool.eq_false_iff, ne_eq, Nat.ble_eq] at h2
        rw [bridgeAt, decide_eq_true_eq]; omega
      rw [this] at h; simp at h
    · intro h
      apply Classical.byContradiction
      intro hlen
      apply h
      intro x hx
      have h0 : ((List.range es.length).filter (bridgeAt m es)).length = 0 := by omega
      have h2 := (List.filter_eq_nil_iff.mp (List.eq_nil_of_length_eq_zero h0)) x hx
      rw [bridgeAt, decide_eq_true_eq] at h2
      rw [Bool.not_eq_true', Bool.eq_false_iff, ne_eq, Nat.ble_eq]; omega
  cases hn : noBr m es with
  | true => rw [hn] at this; exact decide_eq_false (by rw [this]; simp)
  | false => rw [hn] at this; exact decide_eq_true (this.mpr (by simp))
theorem FnFulls : laws_FnFulls.Pure := by
  intro l0 hm hb hw
  apply Ev.rounds
  simp only [laws_FnFulls.f]
  by_cases hbig : (l0.length : Int) > 1048576
  · simp only [if_pos hbig]; exact Ev.now true
  simp only [if_neg hbig]
  obtain ⟨m, xs, h1, h5, hl, he⟩ := some_ev (by omega) hw
  have hd : Ev (fun k => spec_DrawStrongFulls.f k l0) ((m : Int), xs) := by unfold spec_DrawStrongFulls.f; exact Ev.bind he (Ev.now _)
  refine Ev.bind hd ?_
  cases hg : gOk (m : Int) xs with
  | false =>
    refine Ev.bind (impl_StrongFulls_no hl hg) (Ev.bind (spec_StrongFulls_no hl hg) ?_)
    simp only [bne_self_eq_false, Bool.false_eq_true, if_false, if_true, beq_self_eq_true]
    exact Ev.now _
  | true =>
    obtain ⟨m', es, hmm, rfl, hv⟩ := gOk_valid hg
    obtain rfl : m = m' := by omega
    refine Ev.bind (impl_StrongFulls_ev hv) (Ev.bind (spec_StrongFulls_ev hv) ?_)
    simp only [bne_self_eq_false, Bool.false_eq_true, if_false, if_true]
    refine Ev.bind (impl_StrongBridges_ev hv) ?_
    simp only [if_true, br_pos]
    have hc : (((cStrongFulls m es : Nat) : Int) == 0) = !noBr m es := by
      have h0 := cnt_zero_iff (fun o => fullF m (dirs es o)) (2 ^ es.length)
      rw [full_chk hv] at h0
      have h0 : cStrongFulls m es = 0 ↔ ¬ noBr m es = true := h0
      cases hn : noBr m es with
      | true => rw [hn] at h0; simp at h0 ⊢; omega
      | false => rw [hn] at h0; simp at h0 ⊢; omega
    rw [hc, beq_self_eq_true]; exact Ev.now _
end Go.Proofs.Ytjklkphhfkdkpaa.Pure
