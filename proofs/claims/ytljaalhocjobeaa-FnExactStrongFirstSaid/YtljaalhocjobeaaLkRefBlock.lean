/-
  The reference's l3Block and l3Strong.
-/
import Derived.Test.YtljaalhocjobeaaLkRefReach
import Derived.Test.YtljaalhocjobeaaLkTurn
import Derived.Test.YtljaalhocjobeaaPx32
namespace Go.Proofs.Ytljaalhocjobeaa.Lk
open Go Go.RowKit Go.Proofs.YtljaalhocjobeaaW.PrintWords Go.Proofs.YtljaalhocjobeaaW.PrintLast Go.Proofs.YtljaalhocjobeaaW.PrintMore Go.Proofs.Ytljaalhocjobeaa.P Go.Proofs.Ytljaalhocjobeaa.Gw
set_option linter.unusedVariables false
set_option linter.unusedSimpArgs false
theorem refBlock_ev {m : Nat} {es : Ed} (hv : Valid m es) {b : Nat} (hb : b < 2 ^ es.length) {v : Nat} (hvm : v < m) :
    Ev (fun k => spec_l3Block.f k (m : Int) (toS es) (b : Int) (v : Int)) ((blk m (dirs es b) v : Nat) : Int) := by
  have h5 := hv.le
  have hR := dirs_inR hv.inR b
  have hc1 := pow5 h5 (close_lt_n h5 hR hvm)
  have hc2 := pow5 h5 (close_lt_n h5 hR.rev hvm)
  unfold spec_l3Block.f
  simp only [if_pos (show 0 ≤ (v : Int) by omega), shl_nat (show v ≤ 61 by omega), all_eq hv, Option.bind_some, sub_eq hv hb]
  refine Ev.bind (refReach_ev hv hb hvm) ?_
  have hn := refReach_ev hv (b := tn es.length b) tn_lt hvm
  rw [dirs_tn es b hb] at hn
  refine Ev.bind hn ?_
  simp only [and_nat (show close (rowsOf m (dirs es b)) (2 ^ v) < 2 ^ 62 by omega) (show close (rowsOf m (rev (dirs es b))) (2 ^ v) < 2 ^ 62 by omega)]
  exact Ev.now _
end Go.Proofs.Ytljaalhocjobeaa.Lk
