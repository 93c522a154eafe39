/-
  The reference's l2Poly.
-/
import Derived.Test.YtjhedhpippppeaaLkPol
import Derived.Test.YtjhedhpippppeaaLkRefParts
import Derived.Test.YtjhedhpippppeaaLkTurn
import Derived.Test.YtjhedhpippppeaaPx36
namespace Go.Proofs.Ytjhedhpippppeaa.Lk
open Go Go.RowKit Go.Proofs.YtjhedhpippppeaaW.PrintWords Go.Proofs.YtjhedhpippppeaaW.PrintLast Go.Proofs.YtjhedhpippppeaaW.PrintMore Go.Proofs.Ytjhedhpippppeaa.P Go.Proofs.Ytjhedhpippppeaa.Gw
set_option linter.unusedVariables false
set_option linter.unusedSimpArgs false
theorem rPoly_l1 {m : Nat} {es : Ed} (hv : Valid m es) {t : Nat} (ht : t < 2 ^ es.length) {r : List Int}
    (hr : Ev (fun k => spec_l2Poly.l0 k (polyUpto m es (t + 1)) ((t + 1 : Nat) : Int) (m : Int) (toS es)) r) : ∀ d i : Nat, i + d = es.length →
    Ev (fun k => spec_l2Poly.l1 k (polyUpto m es t) (t : Int) (sgn (parL i t)) (i : Int) (m : Int) (toS es)) r := by
  have hp := pow_le hv.len
  have h10 := hv.len
  have h5 := hv.le
  have t62 : t < 2 ^ 62 := by omega
  intro d
  induction d with
  | zero =>
    intro i hi
    obtain rfl : i = es.length := by omega
    have hu := uf_le hv t
    have hl := poly_len m es t
    have hbd := poly_bd hv t (ufF m (sel es t))
    have hw : wrap64 ((t : Int) + 1) = ((t + 1 : Nat) : Int) := by rw [wrap_id (by omega) (by omega)]; simp
    have hrd : rd (polyUpto m es t) ((ufF m (sel es t) : Nat) : Int) = (polyUpto m es t).getD (ufF m (sel es t)) 0 := by unfold rd; rw [Int.toNat_natCast]
    have hsg : -1 ≤ sgn (parL es.length t) ∧ sgn (parL es.length t) ≤ 1 := by cases parL es.length t <;> simp [sgn]
    have hng : ¬ (es.length : Int) < ((toS es).length : Int) := by rw [toS_length]; omega
    rw [polyUpto] at hr
    refine Ev.step (fun k => rfl) ?_
    simp only [spec_l2Poly.l1, if_neg hng]
    refine Ev.bind (refParts_ev hv t62) ?_
    simp only [if_pos (show 0 ≤ ((ufF m (sel es t) : Nat) : Int) by omega), if_pos (show ((ufF m (sel es t) : Nat) : Int) < ((polyUpto m es t).length : Int) by omega), hrd, Int.toNat_natCast, hw, wrap_id (x := (polyUpto m es t).getD (ufF m (sel es t)) 0 + sgn (parL es.length t)) (by omega) (by omega)]
    exact hr
  | succ d ih =>
    intro i hi
    have hk := ih (i + 1) (by omega)
    rw [parL_succ] at hk
    have hw : wrap64 ((i : Int) + 1) = ((i + 1 : Nat) : Int) := by rw [wrap_id (by omega) (by omega)]; simp
    have hil : (i : Int) < ((toS es).length : Int) := by rw [toS_length]; omega
    refine Ev.step (fun k => ?_) hk
    simp only [spec_l2Poly.l1]
    rw [if_pos hil, if_pos (by omega), hw]
    cases hb : t.testBit i with
    | true =>
      rw [if_pos ((bit_one t62 (by omega)).mpr hb)]
      cases parL i t
      · simp only [sgn, cond_false, Bool.false_xor, cond_true]; rw [wrap_id (by omega) (by omega)]
      · simp only [sgn, cond_true, Bool.true_xor, Bool.not_true, cond_false]; rw [wrap_id (by omega) (by omega)]; rfl
    | false => rw [if_neg (by rw [bit_one t62 (by omega), hb]; simp)]; simp
theorem rPoly_l0 {m : Nat} {es : Ed} (hv : Valid m es) : ∀ d t : Nat, t + d = 2 ^ es.length →
    Ev (fun k => spec_l2Poly.l0 k (polyUpto m es t) (t : Int) (m : Int) (toS es)) (polyL m es) := by
  have h0 := Nat.two_pow_pos es.length
  intro d
  induction d with
  | zero =>
    intro t ht
    obtain rfl : t = 2 ^ es.length := by omega
    refine Ev.step (f := fun _ => some (polyL m es)) (fun k => ?_) (Ev.now _)
    simp only [spec_l2Poly.l0, all_eq hv, Option.bind_some]; rw [if_neg (by omega)]; rfl
  | succ d ih =>
    intro t ht
    have h := rPoly_l1 hv (t := t) (by omega) (ih (t + 1) (by omega)) es.length 0 (by omega)
    refine Ev.step (fun k => ?_) h
    simp only [spec_l2Poly.l0, all_eq hv, Option.bind_some]
    rw [if_pos (by omega)]; rfl
theorem refPoly_ev {m : Nat} {es : Ed} (hv : Valid m es) : Ev (fun k => spec_l2Poly.f k (m : Int) (toS es)) (polyL m es) := by
  have h5 := hv.le
  have hw : wrap64 ((m : Int) + 1) = ((m + 1 : Nat) : Int) := by rw [wrap_id (by omega) (by omega)]; simp
  unfold spec_l2Poly.f
  simp only [hw, Int.toNat_natCast, if_pos (show 0 ≤ ((m + 1 : Nat) : Int) by omega), if_pos (show m + 1 ≤ 35184372088832 by omega)]
  exact rPoly_l0 hv (2 ^ es.length) 0 (by omega)
end Go.Proofs.Ytjhedhpippppeaa.Lk
