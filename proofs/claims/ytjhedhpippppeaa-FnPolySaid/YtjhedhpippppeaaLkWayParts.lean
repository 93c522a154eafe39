/-
  WayParts of the program: the number of parts of a graph.
-/
import Derived.Test.YtjhedhpippppeaaLkParts
import Derived.Test.YtjhedhpippppeaaPx38
namespace Go.Proofs.Ytjhedhpippppeaa.Lk
open Go Go.RowKit Go.Proofs.YtjhedhpippppeaaW.PrintWords Go.Proofs.YtjhedhpippppeaaW.PrintLast Go.Proofs.YtjhedhpippppeaaW.PrintMore Go.Proofs.Ytjhedhpippppeaa.P Go.Proofs.Ytjhedhpippppeaa.Gw
set_option linter.unusedVariables false
set_option linter.unusedSimpArgs false
theorem implWayParts_no {n : Int} {ys : List S33} (hl : ys.length < 2 ^ 62) (hw : gOk n ys = false) : Ev (fun k => impl_WayParts.f k n ys) (0, false) := by
  unfold impl_WayParts.f; exact Ev.bind (impl_wayGraph hl) (by simpa [hw] using Ev.now _)
theorem wp_all {m : Nat} {es : Ed} (hv : Valid m es) : wrap64 (shl .i64 1 ((toS es).length : Int) - 1) = ((2 ^ es.length - 1 : Nat) : Int) := by
  have hp := pow_le hv.len
  have h0 := Nat.two_pow_pos es.length
  have h10 := hv.len
  rw [toS_length, shl_nat (by omega)]
  generalize 2 ^ es.length = p at *
  rw [wrap_id (by omega) (by omega)]; omega
theorem implWayParts_ev {m : Nat} {es : Ed} (hv : Valid m es) : Ev (fun k => impl_WayParts.f k (m : Int) (toS es)) (((ufF m es : Nat) : Int), true) := by
  have hp := pow_le hv.len
  unfold impl_WayParts.f
  refine Ev.bind (impl_wayGraph (by rw [toS_length]; have := hv.len; omega)) ?_
  rw [valid_gOk_iff hv]
  simp only [if_true, wp_all hv]
  have h := partsBy_ev hv (s := 2 ^ es.length - 1) (by omega)
  rw [sel_full] at h
  exact Ev.bind h (Ev.now _)
end Go.Proofs.Ytjhedhpippppeaa.Lk
