/-
  FnStrongCount answers true: graphs of one part have as many strong directions as full ones, others none.
-/
import Derived.Test.YtjklkphhfkdkpaaMFnStrongCount
import Derived.Test.YtjklkphhfkdkpaaPx45
import Derived.Test.YtjklkphhfkdkpaaPx37
namespace Go.Proofs.Ytjklkphhfkdkpaa.Pure
open Go Go.RowKit Go.Proofs.YtjklkphhfkdkpaaW.PrintWords Go.Proofs.YtjklkphhfkdkpaaW.PrintLast Go.Proofs.YtjklkphhfkdkpaaW.PrintMore Go.Proofs.Ytjklkphhfkdkpaa.P Go.Proofs.Ytjklkphhfkdkpaa.Gw Go.Proofs.Ytjklkphhfkdkpaa.Lk
set_option linter.unusedVariables false
set_option linter.unusedSimpArgs false
theorem strong_bool {m : Nat} {es : Ed} (hv : Valid m es) (o : Nat) : strongF m (dirs es o) = (fullF m (dirs es o) && decide (ufF m es = 1)) := by
  have h := strong_iff hv o
  rw [(parts_chk hv).1] at h
  rw [strongF, Bool.eq_iff_iff, beq_iff_eq, Bool.and_eq_true, decide_eq_true_eq]; exact h
theorem cnt_zero (p : Nat → Bool) (h : ∀ o, p o = false) : ∀ n, cntP p n = 0
  | 0 => rfl
  | n + 1 => by rw [cntP, h n, cnt_zero p h n]; rfl
theorem FnStrongCount : laws_FnStrongCount.Pure := by
  intro l0 hm hb hw
  apply Ev.rounds
  simp only [laws_FnStrongCount.f]
  by_cases hbig : (l0.length : Int) > 1048576
  · simp only [if_pos hbig]; exact Ev.now true
  simp only [if_neg hbig]
  obtain ⟨m, xs, h1, h5, hl, he⟩ := some_ev (by omega) hw
  have hd : Ev (fun k => spec_DrawStrongCount.f k l0) ((m : Int), xs) := by unfold spec_DrawStrongCount.f; exact Ev.bind he (Ev.now _)
  refine Ev.bind hd ?_
  cases hg : gOk (m : Int) xs with
  | false =>
    refine Ev.bind (impl_StrongCount_no hl hg) (Ev.bind (spec_StrongCount_no hl hg) ?_)
    simp only [bne_self_eq_false, Bool.false_eq_true, if_false, if_true, Bool.not_false]
    refine Ev.step (fun k => by simp only [laws_FnStrongCount.j0]; rfl) ?_
    simp only [if_true, beq_self_eq_true]; exact Ev.now _
  | true =>
    obtain ⟨m', es, hmm, rfl, hv⟩ := gOk_valid hg
    obtain rfl : m = m' := by omega
    refine Ev.bind (impl_StrongCount_ev hv) (Ev.bind (spec_StrongCount_ev hv) ?_)
    simp only [bne_self_eq_false, Bool.false_eq_true, if_false, if_true, Bool.not_true]
    refine Ev.step (fun k => by simp only [laws_FnStrongCount.j0]; rfl) ?_
    simp only [Bool.false_eq_true, if_false]
    refine Ev.bind (implWayParts_ev hv) (Ev.bind (impl_StrongFulls_ev hv) ?_)
    obtain ⟨_, p1, p2, p3⟩ := parts_chk hv
    by_cases hu : ufF m es = 1
    · have hc : cStrongCount m es = cStrongFulls m es := by
        unfold cStrongCount cStrongFulls
        exact cntP_congr _ (fun o _ => by rw [strong_bool hv o, decide_eq_true hu, Bool.and_true])
      simp only [if_true, if_pos (show ((ufF m es : Nat) : Int) = 1 by omega), if_pos (show ((cStrongCount m es : Nat) : Int) = ((cStrongFulls m es : Nat) : Int) by rw [hc])]
      exact Ev.now _
    · have hc : cStrongCount m es = 0 := by
        unfold cStrongCount
        exact cnt_zero _ (fun o => by rw [strong_bool hv o, decide_eq_false hu, Bool.and_false]) _
      simp only [if_true, if_neg (show ¬ ((ufF m es : Nat) : Int) = 1 by omega), if_pos (show ((ufF m es : Nat) : Int) > 1 by omega), hc]
      exact Ev.now _
end Go.Proofs.Ytjklkphhfkdkpaa.Pure
