/-
  StrongFirst of the program and of the reference tell the same, for every graph.
-/
import Derived.Test.YtljaalhocjobeaaLkBlocks
import Derived.Test.YtljaalhocjobeaaLkRefStrong
import Derived.Test.YtljaalhocjobeaaPx45
import Derived.Test.YtljaalhocjobeaaPx44
namespace Go.Proofs.Ytljaalhocjobeaa.Lk
open Go Go.RowKit Go.Proofs.YtljaalhocjobeaaW.PrintWords Go.Proofs.YtljaalhocjobeaaW.PrintLast Go.Proofs.YtljaalhocjobeaaW.PrintMore Go.Proofs.Ytljaalhocjobeaa.P Go.Proofs.Ytljaalhocjobeaa.Gw
set_option linter.unusedVariables false
set_option linter.unusedSimpArgs false
theorem lenSF {m : Nat} {es : Ed} (hv : Valid m es) : (toS es).length < 2 ^ 62 := by rw [toS_length]; have := hv.len; omega
/-- the first number from o on, d of them, that is a strong direction -/
def firstFrom (p : Nat → Bool) : Nat → Nat → Int × Bool
  | 0, _ => (0, false)
  | d + 1, o => bif p o then ((o : Int), true) else firstFrom p d (o + 1)
theorem implSF_l {m : Nat} {es : Ed} (hv : Valid m es) : ∀ d o : Nat, o + d = 2 ^ es.length →
    Ev (fun k => impl_StrongFirst.l0 k ((2 ^ es.length : Nat) : Int) (o : Int) (m : Int) (toS es)) (firstFrom (fun o => strongF m (dirs es o)) d o) := by
  have hp := pow_le hv.len
  intro d
  induction d with
  | zero =>
    intro o ho
    refine Ev.step (f := fun _ => some (0, false)) (fun k => ?_) (Ev.now _)
    simp only [impl_StrongFirst.l0]; rw [if_neg (by omega)]
  | succ d ih =>
    intro o ho
    have hk := ih (o + 1) (by omega)
    have hw : wrap64 ((o : Int) + 1) = ((o + 1 : Nat) : Int) := by rw [wrap_id (by omega) (by omega)]; simp
    have h1 := oneBlock hv o
    refine Ev.step (fun k => rfl) ?_
    simp only [impl_StrongFirst.l0, if_pos (show (o : Int) < ((2 ^ es.length : Nat) : Int) by omega)]
    refine Ev.bind (blocksOf_ev hv (by omega)) ?_
    rw [firstFrom]
    cases hs : strongF m (dirs es o) with
    | true =>
      rw [hs, beq_iff_eq] at h1
      simp only [if_pos h1, cond_true]; exact Ev.now _
    | false =>
      rw [hs, beq_eq_false_iff_ne] at h1
      simp only [if_neg h1, cond_false, hw]; exact hk
theorem specSF_l {m : Nat} {es : Ed} (hv : Valid m es) : ∀ d o : Nat, o + d = 2 ^ es.length →
    Ev (fun k => spec_StrongFirst.l0 k (o : Int) (m : Int) (toS es)) (firstFrom (fun o => strongF m (dirs es o)) d o) := by
  have hp := pow_le hv.len
  have h0 := Nat.two_pow_pos es.length
  intro d
  induction d with
  | zero =>
    intro o ho
    refine Ev.step (f := fun _ => some (0, false)) (fun k => ?_) (Ev.now _)
    simp only [spec_StrongFirst.l0, all_eq hv, Option.bind_some]; rw [if_neg (by omega)]
  | succ d ih =>
    intro o ho
    have hk := ih (o + 1) (by omega)
    have hw : wrap64 ((o : Int) + 1) = ((o + 1 : Nat) : Int) := by rw [wrap_id (by omega) (by omega)]; simp
    refine Ev.step (fun k => rfl) ?_
    simp only [spec_StrongFirst.l0, all_eq hv, Option.bind_some, if_pos (show (o : Int) ≤ ((2 ^ es.length - 1 : Nat) : Int) by omega)]
    refine Ev.bind (refStrong_ev hv (by omega)) ?_
    rw [firstFrom]
    cases hs : strongF m (dirs es o) with
    | true => simp only [if_true, cond_true]; exact Ev.now _
    | false => simp only [Bool.false_eq_true, if_false, cond_false, hw]; exact hk
/-- the first strong direction -/
def sFirst (m : Nat) (es : Ed) : Int × Bool := firstFrom (fun o => strongF m (dirs es o)) (2 ^ es.length) 0
theorem impl_StrongFirst_no {n : Int} {ys : List S53} (hl : ys.length < 2 ^ 62) (hw : gOk n ys = false) : Ev (fun k => impl_StrongFirst.f k n ys) (0, false) := by
  unfold impl_StrongFirst.f; exact Ev.bind (impl_wayGraph hl) (by simpa [hw] using Ev.now _)
theorem spec_StrongFirst_no {n : Int} {ys : List S53} (hl : ys.length < 2 ^ 62) (hw : gOk n ys = false) : Ev (fun k => spec_StrongFirst.f k n ys) (0, false) := by
  unfold spec_StrongFirst.f; exact Ev.bind (spec_wayGraph hl) (by simpa [hw] using Ev.now _)
theorem impl_StrongFirst_ev {m : Nat} {es : Ed} (hv : Valid m es) : Ev (fun k => impl_StrongFirst.f k (m : Int) (toS es)) (sFirst m es) := by
  have h10 := hv.len
  unfold impl_StrongFirst.f
  refine Ev.bind (impl_wayGraph (lenSF hv)) ?_
  rw [valid_gOk_iff hv]
  simp only [if_true, toS_length, shl_nat (show es.length ≤ 61 by omega)]
  exact implSF_l hv (2 ^ es.length) 0 (by omega)
theorem spec_StrongFirst_ev {m : Nat} {es : Ed} (hv : Valid m es) : Ev (fun k => spec_StrongFirst.f k (m : Int) (toS es)) (sFirst m es) := by
  unfold spec_StrongFirst.f
  refine Ev.bind (spec_wayGraph (lenSF hv)) ?_
  rw [valid_gOk_iff hv]
  simp only [if_true]
  exact specSF_l hv (2 ^ es.length) 0 (by omega)
theorem same_StrongFirst (n : Int) (ys : List S53) (hl : ys.length < 2 ^ 62) : ∃ r, Ev (fun k => spec_StrongFirst.f k n ys) r ∧ Ev (fun k => impl_StrongFirst.f k n ys) r := by
  cases hw : gOk n ys with
  | false => exact ⟨_, spec_StrongFirst_no hl hw, impl_StrongFirst_no hl hw⟩
  | true =>
    obtain ⟨m, es, rfl, rfl, hv⟩ := gOk_valid hw
    exact ⟨_, spec_StrongFirst_ev hv, impl_StrongFirst_ev hv⟩
end Go.Proofs.Ytljaalhocjobeaa.Lk
