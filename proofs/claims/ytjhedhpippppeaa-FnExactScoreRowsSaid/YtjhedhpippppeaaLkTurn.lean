/-
  WayTurned and WayFlip, of the program and of the reference, tell the same.
-/
import Derived.Test.YtjhedhpippppeaaLkIn
import Derived.Test.YtjhedhpippppeaaPx34
import Derived.Test.YtjhedhpippppeaaPx13
namespace Go.Proofs.Ytjhedhpippppeaa.Lk
open Go Go.RowKit Go.Proofs.YtjhedhpippppeaaW.PrintWords Go.Proofs.YtjhedhpippppeaaW.PrintLast Go.Proofs.YtjhedhpippppeaaW.PrintMore Go.Proofs.Ytjhedhpippppeaa.P Go.Proofs.Ytjhedhpippppeaa.Gw
set_option linter.unusedVariables false
set_option linter.unusedSimpArgs false
theorem all_eq {m : Nat} {es : Ed} (hv : Valid m es) (n : Int) : spec_l1All.f n (toS es) = some ((2 ^ es.length - 1 : Nat) : Int) := by
  have hp := pow_le hv.len
  have h0 := Nat.two_pow_pos es.length
  have h10 := hv.len
  unfold spec_l1All.f
  rw [toS_length, shl_nat (by omega)]
  generalize 2 ^ es.length = p at *
  rw [wrap_id (by omega) (by omega)]; congr 1; omega
theorem allm1 {m : Nat} {es : Ed} (hv : Valid m es) : wrap64 (shl .i64 1 ((toS es).length : Int) - 1) = ((2 ^ es.length - 1 : Nat) : Int) := by
  have := all_eq hv 0
  unfold spec_l1All.f at this
  exact Option.some.inj this
theorem turned_eq {m : Nat} {es : Ed} (hv : Valid m es) {b : Nat} (hb : b < 2 ^ es.length) (n : Int) : impl_turned.f n (toS es) (b : Int) = some ((tn es.length b : Nat) : Int) := by
  have hp := pow_le hv.len
  unfold impl_turned.f
  rw [allm1 hv, xor_nat (by omega) (by omega), tn_xor hb]
theorem sub_eq {m : Nat} {es : Ed} (hv : Valid m es) {b : Nat} (hb : b < 2 ^ es.length) : wrap64 (((2 ^ es.length - 1 : Nat) : Int) - (b : Int)) = ((tn es.length b : Nat) : Int) := by
  have hp := pow_le hv.len
  unfold tn
  generalize 2 ^ es.length = p at *
  rw [wrap_id (by omega) (by omega)]; omega
end Go.Proofs.Ytjhedhpippppeaa.Lk
