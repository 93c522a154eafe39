/-
  The program's isFull.
-/
import Derived.Test.YtljaalhocjobeaaLkNext
import Derived.Test.YtljaalhocjobeaaLkReach
import Derived.Test.YtljaalhocjobeaaPx41
namespace Go.Proofs.Ytljaalhocjobeaa.Lk
open Go Go.RowKit Go.Proofs.YtljaalhocjobeaaW.PrintWords Go.Proofs.YtljaalhocjobeaaW.PrintLast Go.Proofs.YtljaalhocjobeaaW.PrintMore Go.Proofs.Ytljaalhocjobeaa.P Go.Proofs.Ytljaalhocjobeaa.Gw
set_option linter.unusedVariables false
set_option linter.unusedSimpArgs false
theorem full_l0 {m : Nat} {es : Ed} (hv : Valid m es) {b : Nat} (hb : b < 2 ^ es.length) : ∀ d i : Nat, i + d = es.length →
    Ev (fun k => impl_isFull.l0 k (b : Int) (toI (rowsOf m (dirs es b))) (es.length : Int) (i : Int) (m : Int) (toS es)) (((dirs es b).drop i).all fun e => (close (rowsOf m (dirs es b)) (2 ^ e.2)).testBit e.1) := by
  have hD := dirs_length es b
  have hR := dirs_inR hv.inR b
  have h10 := hv.len
  have h5 := hv.le
  have b62 : b < 2 ^ 62 := by have hp := pow_le hv.len; omega
  intro d
  induction d with
  | zero =>
    intro i hi
    rw [List.drop_eq_nil_of_le (by omega)]
    refine Ev.step (f := fun _ => some true) (fun k => ?_) (Ev.now _)
    simp only [impl_isFull.l0]; rw [if_neg (by omega)]
  | succ d ih =>
    intro i hi
    have hk := ih (i + 1) (by omega)
    have hil : i < (dirs es b).length := by omega
    have hdrop : (dirs es b).drop i = (dirs es b).getD i (0, 0) :: (dirs es b).drop (i + 1) := by
      rw [List.drop_eq_getElem_cons hil, List.getD_eq_getElem?_getD, List.getElem?_eq_getElem hil]; rfl
    have he := hR _ (getD_mem (ds := dirs es b) hil)
    have hends := ends_eq (es := es) (b := b) (i := i) b62 (by omega) (by omega) (m : Int)
    have hw : wrap64 ((i : Int) + 1) = ((i + 1 : Nat) : Int) := by rw [wrap_id (by omega) (by omega)]; simp
    rw [hdrop, List.all_cons]
    generalize (dirs es b).getD i (0, 0) = x at *
    have hc := pow5 h5 (close_lt_n h5 hR he.2)
    refine Ev.step (fun k => rfl) ?_
    simp only [impl_isFull.l0, if_pos (show (i : Int) < (es.length : Int) by omega), hends, Option.bind_some]
    refine Ev.bind (reachOf_ev h5 hR he.2) ?_
    simp only [if_pos (show 0 ≤ (x.1 : Int) by omega), hw]
    cases ht : (close (rowsOf m (dirs es b)) (2 ^ x.2)).testBit x.1 with
    | false =>
      simp only [if_pos ((bit_zero (show close (rowsOf m (dirs es b)) (2 ^ x.2) < 2 ^ 62 by omega) (show x.1 ≤ 64 by omega)).mpr ht), Bool.false_and]; exact Ev.now _
    | true =>
      have : ¬ (Go.bits .and .i64 (shr .i64 ((close (rowsOf m (dirs es b)) (2 ^ x.2) : Nat) : Int) (x.1 : Int)) 1 = 0) := by rw [bit_zero (by omega) (by omega), ht]; simp
      simp only [if_neg this, Bool.true_and]; exact hk
theorem isFull_ev {m : Nat} {es : Ed} (hv : Valid m es) {b : Nat} (hb : b < 2 ^ es.length) :
    Ev (fun k => impl_isFull.f k (m : Int) (toS es) (b : Int)) (fullF m (dirs es b)) := by
  unfold impl_isFull.f
  refine Ev.bind (nextOf_ev hv hb) ?_
  simp only [toS_length]
  exact full_l0 hv hb es.length 0 (by omega)
end Go.Proofs.Ytljaalhocjobeaa.Lk
