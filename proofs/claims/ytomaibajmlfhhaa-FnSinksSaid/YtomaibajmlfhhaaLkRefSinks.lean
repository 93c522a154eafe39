/-
  The reference's l1Sinks: the same set as the rows' that are empty.
-/
import Derived.Test.YtomaibajmlfhhaaLkRefOut
import Derived.Test.YtomaibajmlfhhaaPx56
namespace Go.Proofs.Ytomaibajmlfhhaa.Lk
open Go Go.RowKit Go.Proofs.YtomaibajmlfhhaaW.PrintWords Go.Proofs.YtomaibajmlfhhaaW.PrintLast Go.Proofs.YtomaibajmlfhhaaW.PrintMore Go.Proofs.Ytomaibajmlfhhaa.P Go.Proofs.Ytomaibajmlfhhaa.Gw
set_option linter.unusedVariables false
set_option linter.unusedSimpArgs false
theorem refSinks_l {outs : List Nat} {m : Nat} (hm : outs.length = m) (h5 : m ≤ 5) (xs : List S34) : ∀ d i : Nat, i + d = m → ∀ s : Nat, s < 32 →
    Ev (fun k => spec_l1Sinks.l0 k (s : Int) (toI outs) (i : Int) (m : Int) xs) ((sinksL (outs.drop i) i s : Nat) : Int) := by
  intro d
  induction d with
  | zero =>
    intro i hi s hs
    refine Ev.step (f := fun _ => some (s : Int)) (fun k => ?_) (by rw [List.drop_eq_nil_of_le (by omega)]; exact Ev.now _)
    simp only [spec_l1Sinks.l0]; rw [if_neg (by omega)]
  | succ d ih =>
    intro i hi s hs
    have hil : i < outs.length := by omega
    rw [List.drop_eq_getElem_cons hil, sinksL]
    have hlt : (bif outs[i] == 0 then s ||| 2 ^ i else s) < 32 := by
      cases outs[i] == 0
      · exact hs
      · exact Nat.or_lt_two_pow (n := 5) hs (Nat.pow_lt_pow_right (by omega) (by omega))
    refine Ev.step (fun k => ?_) (ih (i + 1) (by omega) _ hlt)
    have hrd : rd (toI outs) (i : Int) = ((outs[i] : Nat) : Int) := by rw [rd_toI, List.getD_eq_getElem?_getD, List.getElem?_eq_getElem hil]; rfl
    simp only [spec_l1Sinks.l0]
    rw [if_pos (by omega), if_pos (by omega), if_pos (by rw [toI_length]; omega), hrd, wrap_id (by omega) (by omega)]
    by_cases h0 : outs[i] = 0
    · rw [if_pos (by omega), h0, shl_nat (by omega), or_nat (by omega) (small (n := 5) (by omega) (Nat.pow_lt_pow_right (by omega) (by omega)))]; simp
    · rw [if_neg (by omega), show (outs[i] == 0) = false by simpa using h0]; simp
theorem sinks_outs {m : Nat} (h5 : m ≤ 5) {ds : Ed} (hd : InR m ds) (hn : ds.Nodup) : sinksF (outsOf m ds) = sinksF (rowsOf m ds) := by
  apply Nat.eq_of_testBit_eq; intro i
  rw [Bool.eq_iff_iff, sinksF_bit, sinksF_bit]
  by_cases hi : i < m
  · have h1 := pc_row h5 hd hn i
    have h2 := rows_small h5 hd i
    have h3 := pc5_zero _ h2
    rw [List.getElem?_eq_getElem (by rw [outsOf_length]; exact hi), List.getElem?_eq_getElem (by rw [rowsOf_length]; exact hi)]
    simp only [List.getD_eq_getElem?_getD, List.getElem?_eq_getElem (show i < (rowsOf m ds).length by rw [rowsOf_length]; exact hi), List.getElem?_eq_getElem (show i < (outsOf m ds).length by rw [outsOf_length]; exact hi), Option.getD_some] at h1 h3
    rw [h1] at h3
    simp only [Option.some.injEq]; exact h3
  · rw [List.getElem?_eq_none (by rw [outsOf_length]; omega), List.getElem?_eq_none (by rw [rowsOf_length]; omega)]
theorem refSinks_ev {m : Nat} {es : Ed} (hv : Valid m es) {b : Nat} (hb : b < 2 ^ es.length) :
    Ev (fun k => spec_l1Sinks.f k (m : Int) (toS es) (b : Int)) ((sinksF (rowsOf m (dirs es b)) : Nat) : Int) := by
  unfold spec_l1Sinks.f
  refine Ev.bind (refOut_ev hv hb) ?_
  rw [← sinks_outs hv.le (dirs_inR hv.inR b) (dirs_nodup hv b)]
  exact refSinks_l (outsOf_length m _) hv.le (toS es) m 0 (by omega) 0 (by omega)
end Go.Proofs.Ytomaibajmlfhhaa.Lk
