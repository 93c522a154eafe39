/-
  FnRoot answers true: each node is as often the only source, and none just where there are two parts.
-/
import Derived.Test.YtjklkphhfkdkpaaMFnRoot
import Derived.Test.YtjklkphhfkdkpaaPx22
import Derived.Test.YtjklkphhfkdkpaaPx10
namespace Go.Proofs.Ytjklkphhfkdkpaa.Pure
open Go Go.RowKit Go.Proofs.YtjklkphhfkdkpaaW.PrintWords Go.Proofs.YtjklkphhfkdkpaaW.PrintLast Go.Proofs.YtjklkphhfkdkpaaW.PrintMore Go.Proofs.Ytjklkphhfkdkpaa.P Go.Proofs.Ytjklkphhfkdkpaa.Gw Go.Proofs.Ytjklkphhfkdkpaa.Lk
set_option linter.unusedVariables false
set_option linter.unusedSimpArgs false
theorem root_loop {m : Nat} {es : Ed} (hv : Valid m es) : ∀ d v : Nat, v + d = m →
    Ev (fun k => laws_FnRoot.l0 k ((cRoot m es 0 : Nat) : Int) ((ufF m es : Nat) : Int) true (v : Int) (m : Int) (toS es)) true := by
  have h5 := hv.le
  obtain ⟨c1, c2⟩ := root_chk hv
  intro d
  induction d with
  | zero =>
    intro v hvm
    refine Ev.step (f := fun _ => some true) (fun k => ?_) (Ev.now _)
    simp only [laws_FnRoot.l0, if_true]
    rw [if_neg (by omega)]
    have : (((cRoot m es 0 : Nat) : Int) == 0) = decide (((ufF m es : Nat) : Int) > 1) := by
      rw [Bool.eq_iff_iff, beq_iff_eq, decide_eq_true_eq]; omega
    rw [this, beq_self_eq_true]
  | succ d ih =>
    intro v hvm
    have hk := ih (v + 1) (by omega)
    have hw1 : wrap64 ((v : Int) + 1) = ((v + 1 : Nat) : Int) := by rw [wrap_id (by omega) (by omega)]; simp
    have hr := impl_PlainRoot_ev hv (show v < m by clear hw1; omega)
    rw [c1 v (by clear hw1; omega)] at hr
    refine Ev.step (fun k => rfl) ?_
    simp only [laws_FnRoot.l0, if_pos (show (v : Int) < (m : Int) by clear hw1; omega)]
    refine Ev.bind hr ?_
    simp only [if_true, hw1]
    exact hk
theorem FnRoot : laws_FnRoot.Pure := by
  intro l0 hm hb hw
  apply Ev.rounds
  simp only [laws_FnRoot.f]
  by_cases hbig : (l0.length : Int) > 1048576
  · simp only [if_pos hbig]; exact Ev.now true
  simp only [if_neg hbig]
  obtain ⟨m, xs, o, v, h1, h5, hl, he⟩ := node_ev (by omega) hw
  have hd : Ev (fun k => spec_DrawPlainRoot.f k l0) ((m : Int), xs, v) := by unfold spec_DrawPlainRoot.f; exact Ev.bind he (Ev.now _)
  refine Ev.bind hd ?_
  by_cases hc : gOk (m : Int) xs = true ∧ 0 ≤ v ∧ v < (m : Int)
  · obtain ⟨hg, hv0, hv1⟩ := hc
    obtain ⟨m', es, hmm, rfl, hv⟩ := gOk_valid hg
    obtain rfl : m = m' := by omega
    obtain ⟨u, rfl⟩ := Int.eq_ofNat_of_zero_le hv0
    have hu : u < m := by omega
    have a1 := impl_PlainRoot_ev hv hu
    have a2 := spec_PlainRoot_ev hv hu
    rw [(root_chk hv).1 u hu] at a1 a2
    refine Ev.bind a1 (Ev.bind a2 ?_)
    simp only [bne_self_eq_false, Bool.false_eq_true, if_false, if_true, Bool.not_true]
    refine Ev.step (fun k => by simp only [laws_FnRoot.j0]; rfl) ?_
    simp only [Bool.false_eq_true, if_false]
    refine Ev.bind (implWayParts_ev hv) ?_
    exact root_loop hv m 0 (by omega)
  · have hn : gOk (m : Int) xs = false ∨ ¬ (0 ≤ v ∧ v < (m : Int)) := by
      cases hg : gOk (m : Int) xs with
      | false => exact .inl rfl
      | true => exact .inr (fun h => hc ⟨hg, h⟩)
    refine Ev.bind (impl_PlainRoot_no hl hn) (Ev.bind (spec_PlainRoot_no hl hn) ?_)
    simp only [bne_self_eq_false, Bool.false_eq_true, if_false, if_true, Bool.not_false]
    refine Ev.step (fun k => by simp only [laws_FnRoot.j0]; rfl) ?_
    simp only [if_true, beq_self_eq_true]; exact Ev.now _
end Go.Proofs.Ytjklkphhfkdkpaa.Pure
