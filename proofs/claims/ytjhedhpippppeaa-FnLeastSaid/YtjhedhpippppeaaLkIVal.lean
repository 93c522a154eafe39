/-
  impl.valueAt: the value of the polynomial at small numbers.
-/
import Derived.Test.YtjhedhpippppeaaLkVal
import Derived.Test.YtjhedhpippppeaaPx41
namespace Go.Proofs.Ytjhedhpippppeaa.Lk
open Go Go.RowKit Go.Proofs.YtjhedhpippppeaaW.PrintWords Go.Proofs.YtjhedhpippppeaaW.PrintLast Go.Proofs.YtjhedhpippppeaaW.PrintMore Go.Proofs.Ytjhedhpippppeaa.P Go.Proofs.Ytjhedhpippppeaa.Gw
set_option linter.unusedVariables false
set_option linter.unusedSimpArgs false
theorem IVal_l {l : List Int} (hl : ∀ k, -1024 ≤ l.getD k 0 ∧ l.getD k 0 ≤ 1024) {n : Nat} (hn : l.length = n) (hn6 : n ≤ 6) {x : Int} (h0 : 0 ≤ x) (h1 : x ≤ 10) : ∀ j d : Nat, j + d = n →
    Ev (fun k => impl_valueAt.l0 k l x (hv l x d j) ((j : Int) - 1)) (hv l x n 0) := by
  intro j
  induction j with
  | zero =>
    intro d hd
    obtain rfl : d = n := by omega
    refine Ev.step (f := fun _ => some (hv l x d 0)) (fun k => ?_) (Ev.now _)
    simp only [impl_valueAt.l0]; rw [if_neg (by omega)]
  | succ j ih =>
    intro d hd
    have hk := ih (d + 1) (by omega)
    have hb := hv_bd hl h0 h1 d (j + 1)
    have hj := hl j
    have hpw : 11 ^ d ≤ 11 ^ 6 := Nat.pow_le_pow_right (by omega) (by omega)
    have hb2 := hv_bd hl h0 h1 (d + 1) j
    have hpw2 : 11 ^ (d + 1) ≤ 11 ^ 7 := Nat.pow_le_pow_right (by omega) (by omega)
    have e : (((j + 1 : Nat) : Int) - 1) = (j : Int) := by omega
    have hw : wrap64 ((j : Int) - 1) = (j : Int) - 1 := wrap_id (by omega) (by omega)
    have hrd : rd l (j : Int) = l.getD j 0 := by unfold rd; rw [Int.toNat_natCast]
    rw [hv] at hk hb2
    generalize hv l x d (j + 1) = y at *
    generalize hz : y * x = z at hk hb2
    refine Ev.step (fun k => ?_) hk
    simp only [impl_valueAt.l0]
    rw [e, if_pos (by omega), if_pos (by omega), if_pos (by omega), hrd, hw]
    have hz1 : -22811168768 ≤ z + l.getD j 0 ∧ z + l.getD j 0 ≤ 22811168768 := by omega
    rw [hz, wrap_id (x := z) (by omega) (by omega), wrap_id (by omega) (by omega)]
theorem IVal_ev {m : Nat} {es : Ed} (hval : Valid m es) {x : Nat} (hx : x ≤ 10) : Ev (fun k => impl_valueAt.f k (polyL m es) (x : Int)) (colV m es x) := by
  have h5 := hval.le
  have hlen := polyL_len m es
  have h := IVal_l (polyL_bd hval) hlen (by omega) (x := (x : Int)) (by omega) (by omega) (m + 1) 0 (by omega)
  rw [colV_hv] at h
  refine Ev.congr (fun k => ?_) h
  unfold impl_valueAt.f
  rw [hlen, wrap_id (by omega) (by omega)]; rfl
end Go.Proofs.Ytjhedhpippppeaa.Lk
