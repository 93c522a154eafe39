/-
  The program's PlainPoly.
-/
import Derived.Test.YtjhedhpippppeaaLkPol
import Derived.Test.YtjhedhpippppeaaLkOnes
import Derived.Test.YtjhedhpippppeaaLkParts
import Derived.Test.YtjhedhpippppeaaPx33
namespace Go.Proofs.Ytjhedhpippppeaa.Lk
open Go Go.RowKit Go.Proofs.YtjhedhpippppeaaW.PrintWords Go.Proofs.YtjhedhpippppeaaW.PrintLast Go.Proofs.YtjhedhpippppeaaW.PrintMore Go.Proofs.Ytjhedhpippppeaa.P Go.Proofs.Ytjhedhpippppeaa.Gw
set_option linter.unusedVariables false
set_option linter.unusedSimpArgs false
theorem par_popc : ∀ l, l < 11 → ∀ s, s < 2 ^ l → parL l s = (popc s % 2 == 1) := by decide +kernel
theorem iPoly_l {m : Nat} {es : Ed} (hv : Valid m es) : ∀ d t : Nat, t + d = 2 ^ es.length →
    Ev (fun k => impl_PlainPoly.l0 k (polyUpto m es t) ((2 ^ es.length : Nat) : Int) (t : Int) (m : Int) (toS es)) (polyL m es, true) := by
  have hp := pow_le hv.len
  have h10 := hv.len
  have h5 := hv.le
  intro d
  induction d with
  | zero =>
    intro t ht
    obtain rfl : t = 2 ^ es.length := by omega
    refine Ev.step (f := fun _ => some (polyL m es, true)) (fun k => ?_) (Ev.now _)
    simp only [impl_PlainPoly.l0]; rw [if_neg (by omega)]; rfl
  | succ d ih =>
    intro t ht
    have hk := ih (t + 1) (by omega)
    have hw : wrap64 ((t : Int) + 1) = ((t + 1 : Nat) : Int) := by rw [wrap_id (by omega) (by omega)]; simp
    have hu := uf_le hv t
    have hl := poly_len m es t
    have hbd := poly_bd hv t (ufF m (sel es t))
    have hones := ones_eq (s := t) (by omega)
    have hwu : IntKind.u64.wrap (t : Int) = (t : Int) := by
      simp only [IntKind.wrap, IntKind.bits, IntKind.signed, Bool.false_and, Bool.false_eq_true, if_false]; omega
    have hpar := par_popc es.length (by omega) t (by omega)
    have htm : Int.tmod ((popc t : Nat) : Int) 2 = ((popc t % 2 : Nat) : Int) := by rw [Int.tmod_eq_emod_of_nonneg (by omega)]; simp
    have hparts := partsBy_ev hv (s := t) (by omega)
    have hrd : rd (polyUpto m es t) ((ufF m (sel es t) : Nat) : Int) = (polyUpto m es t).getD (ufF m (sel es t)) 0 := by unfold rd; rw [Int.toNat_natCast]
    rw [polyUpto] at hk
    refine Ev.step (fun k => rfl) ?_
    simp only [impl_PlainPoly.l0, if_pos (show (t : Int) < ((2 ^ es.length : Nat) : Int) by omega), hwu, hones, Option.bind_some, htm]
    by_cases h0 : popc t % 2 = 0
    · have hp2 : parL es.length t = false := by rw [hpar, h0]; rfl
      rw [hp2] at hk
      simp only [if_pos (show ((popc t % 2 : Nat) : Int) = 0 by omega)]
      refine Ev.bind hparts ?_
      simp only [if_pos (show 0 ≤ ((ufF m (sel es t) : Nat) : Int) by omega), if_pos (show ((ufF m (sel es t) : Nat) : Int) < ((polyUpto m es t).length : Int) by omega), hrd, Int.toNat_natCast, hw, wrap_id (x := (polyUpto m es t).getD (ufF m (sel es t)) 0 + 1) (by omega) (by omega)]
      exact hk
    · have hp2 : parL es.length t = true := by
        rw [hpar, beq_iff_eq]; omega
      rw [hp2] at hk
      simp only [if_neg (show ¬ ((popc t % 2 : Nat) : Int) = 0 by omega)]
      refine Ev.bind hparts ?_
      simp only [if_pos (show 0 ≤ ((ufF m (sel es t) : Nat) : Int) by omega), if_pos (show ((ufF m (sel es t) : Nat) : Int) < ((polyUpto m es t).length : Int) by omega), hrd, Int.toNat_natCast, hw, wrap_id (x := (polyUpto m es t).getD (ufF m (sel es t)) 0 - 1) (by omega) (by omega)]
      exact hk
theorem implPoly_no {n : Int} {ys : List S33} (hl : ys.length < 2 ^ 62) (hw : gOk n ys = false) : Ev (fun k => impl_PlainPoly.f k n ys) ([], false) := by
  unfold impl_PlainPoly.f; exact Ev.bind (impl_wayGraph hl) (by simpa [hw] using Ev.now _)
theorem implPoly_ev {m : Nat} {es : Ed} (hv : Valid m es) : Ev (fun k => impl_PlainPoly.f k (m : Int) (toS es)) (polyL m es, true) := by
  have h5 := hv.le
  have h10 := hv.len
  unfold impl_PlainPoly.f
  refine Ev.bind (impl_wayGraph (by rw [toS_length]; omega)) ?_
  rw [valid_gOk_iff hv]
  have hw : wrap64 ((m : Int) + 1) = ((m + 1 : Nat) : Int) := by rw [wrap_id (by omega) (by omega)]; simp
  simp only [if_true, hw, Int.toNat_natCast, if_pos (show 0 ≤ ((m + 1 : Nat) : Int) by omega), if_pos (show m + 1 ≤ 35184372088832 by omega), toS_length, shl_nat (show es.length ≤ 61 by omega)]
  exact iPoly_l hv (2 ^ es.length) 0 (by omega)
end Go.Proofs.Ytjhedhpippppeaa.Lk
