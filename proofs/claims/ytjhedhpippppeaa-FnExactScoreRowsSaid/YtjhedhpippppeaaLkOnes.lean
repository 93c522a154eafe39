/-
  math/bits.OnesCount, at numbers below 1024: how many bits are 1.
-/
import Derived.Test.YtjhedhpippppeaaOps
import Derived.Test.YtjhedhpippppeaaPx30
namespace Go.Proofs.Ytjhedhpippppeaa.Lk
open Go Go.RowKit Go.Proofs.YtjhedhpippppeaaW.PrintWords Go.Proofs.YtjhedhpippppeaaW.PrintLast Go.Proofs.YtjhedhpippppeaaW.PrintMore Go.Proofs.Ytjhedhpippppeaa.P Go.Proofs.Ytjhedhpippppeaa.Gw
set_option linter.unusedVariables false
set_option linter.unusedSimpArgs false
def popc (s : Nat) : Nat := s % 2 + s / 2 % 2 + s / 4 % 2 + s / 8 % 2 + s / 16 % 2 + s / 32 % 2 + s / 64 % 2 + s / 128 % 2 + s / 256 % 2 + s / 512 % 2
def onesOk (s : Nat) : Bool := match bits_OnesCount.f (s : Int) with
  | some r => r == (popc s : Int)
  | none => false
theorem ones_all : ∀ s, s < 1024 → onesOk s = true := by decide +kernel
theorem ones_eq {s : Nat} (h : s < 1024) : bits_OnesCount.f (s : Int) = some (popc s : Int) := by
  have := ones_all s h
  unfold onesOk at this
  cases hr : bits_OnesCount.f (s : Int) with
  | none => rw [hr] at this; cases this
  | some r => rw [hr] at this; simp only [beq_iff_eq] at this; rw [this]
end Go.Proofs.Ytjhedhpippppeaa.Lk
