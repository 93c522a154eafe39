/-
  The reference's l3Strong: one block has all nodes.
-/
import Derived.Test.YtljaalhocjobeaaLkRefBlock
import Derived.Test.YtljaalhocjobeaaLkBlocks
import Derived.Test.YtljaalhocjobeaaPx33
namespace Go.Proofs.Ytljaalhocjobeaa.Lk
open Go Go.RowKit Go.Proofs.YtljaalhocjobeaaW.PrintWords Go.Proofs.YtljaalhocjobeaaW.PrintLast Go.Proofs.YtljaalhocjobeaaW.PrintMore Go.Proofs.Ytljaalhocjobeaa.P Go.Proofs.Ytljaalhocjobeaa.Gw
set_option linter.unusedVariables false
set_option linter.unusedSimpArgs false
theorem refStrong_ev {m : Nat} {es : Ed} (hv : Valid m es) {b : Nat} (hb : b < 2 ^ es.length) :
    Ev (fun k => spec_l3Strong.f k (m : Int) (toS es) (b : Int)) (strongF m (dirs es b)) := by
  have h5 := hv.le
  have h1 := hv.pos
  unfold spec_l3Strong.f
  refine Ev.bind (refBlock_ev hv hb (v := 0) (by omega)) ?_
  have h0 := Nat.two_pow_pos m
  have hf : 2 ^ m ≤ 32 := Nat.pow_le_pow_right (n := 2) (j := 5) (by omega) h5
  have hw : wrap64 (((2 ^ m : Nat) : Int) - 1) = ((2 ^ m - 1 : Nat) : Int) := by
    generalize 2 ^ m = p at *
    rw [wrap_id (by omega) (by omega)]; omega
  simp only [if_pos (show 0 ≤ (m : Int) by omega), shl_nat (show m ≤ 61 by omega), hw]
  have : (((blk m (dirs es b) 0 : Nat) : Int) == ((2 ^ m - 1 : Nat) : Int)) = strongF m (dirs es b) := by
    rw [Bool.eq_iff_iff, beq_iff_eq, strongF, beq_iff_eq]; omega
  rw [this]; exact Ev.now _
end Go.Proofs.Ytljaalhocjobeaa.Lk
