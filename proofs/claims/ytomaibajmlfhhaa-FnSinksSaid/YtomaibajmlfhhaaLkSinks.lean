/-
  The program's sinksOf: the nodes whose rows are empty.
-/
import Derived.Test.YtomaibajmlfhhaaLkNext
import Derived.Test.YtomaibajmlfhhaaPx53
namespace Go.Proofs.Ytomaibajmlfhhaa.Lk
open Go Go.RowKit Go.Proofs.YtomaibajmlfhhaaW.PrintWords Go.Proofs.YtomaibajmlfhhaaW.PrintLast Go.Proofs.YtomaibajmlfhhaaW.PrintMore Go.Proofs.Ytomaibajmlfhhaa.P Go.Proofs.Ytomaibajmlfhhaa.Gw
set_option linter.unusedVariables false
set_option linter.unusedSimpArgs false
theorem sinks_l {rows : List Nat} (hr : rows.length ≤ 5) : ∀ d i : Nat, i + d = rows.length → ∀ s : Nat, s < 32 →
    Ev (fun k => impl_sinksOf.l0 k (s : Int) (toI rows) (rows.length : Int) (i : Int)) ((sinksL (rows.drop i) i s : Nat) : Int) := by
  intro d
  induction d with
  | zero =>
    intro i hi s hs
    refine Ev.step (f := fun _ => some (s : Int)) (fun k => ?_) (by rw [List.drop_eq_nil_of_le (by omega)]; exact Ev.now _)
    simp only [impl_sinksOf.l0]; rw [if_neg (by omega)]
  | succ d ih =>
    intro i hi s hs
    have hil : i < rows.length := by omega
    rw [List.drop_eq_getElem_cons hil, sinksL]
    have hlt : (bif rows[i] == 0 then s ||| 2 ^ i else s) < 32 := by
      cases rows[i] == 0
      · exact hs
      · exact Nat.or_lt_two_pow (n := 5) hs (Nat.pow_lt_pow_right (by omega) (by omega))
    refine Ev.step (fun k => ?_) (ih (i + 1) (by omega) _ hlt)
    have hrd : rd (toI rows) (i : Int) = ((rows[i] : Nat) : Int) := by rw [rd_toI, List.getD_eq_getElem?_getD, List.getElem?_eq_getElem hil]; rfl
    simp only [impl_sinksOf.l0]
    rw [if_pos (by omega), if_pos (by omega), if_pos (by rw [toI_length]; omega), hrd, wrap_id (by omega) (by omega)]
    by_cases h0 : rows[i] = 0
    · rw [if_pos (by omega), h0, shl_nat (by omega), or_nat (by omega) (small (n := 5) (by omega) (Nat.pow_lt_pow_right (by omega) (by omega)))]; simp
    · rw [if_neg (by omega), show (rows[i] == 0) = false by simpa using h0]; simp
theorem sinksOf_ev {m : Nat} {es : Ed} (hv : Valid m es) {b : Nat} (hb : b < 2 ^ es.length) :
    Ev (fun k => impl_sinksOf.f k (m : Int) (toS es) (b : Int)) ((sinksF (rowsOf m (dirs es b)) : Nat) : Int) := by
  unfold impl_sinksOf.f
  refine Ev.bind (nextOf_ev hv hb) ?_
  simp only [toI_length]
  have h := sinks_l (rows := rowsOf m (dirs es b)) (by rw [rowsOf_length]; exact hv.le) m 0 (by rw [rowsOf_length]; omega) 0 (by omega)
  exact h
end Go.Proofs.Ytomaibajmlfhhaa.Lk
