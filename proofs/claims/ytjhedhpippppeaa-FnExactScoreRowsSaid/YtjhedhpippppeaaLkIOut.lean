/-
  The program's outOf: how many edges lead from each node.
-/
import Derived.Test.YtjhedhpippppeaaLkOnes
import Derived.Test.YtjhedhpippppeaaLkNext
import Derived.Test.YtjhedhpippppeaaPx96
namespace Go.Proofs.Ytjhedhpippppeaa.Lk
open Go Go.RowKit Go.Proofs.YtjhedhpippppeaaW.PrintWords Go.Proofs.YtjhedhpippppeaaW.PrintLast Go.Proofs.YtjhedhpippppeaaW.PrintMore Go.Proofs.Ytjhedhpippppeaa.P Go.Proofs.Ytjhedhpippppeaa.Gw
set_option linter.unusedVariables false
set_option linter.unusedSimpArgs false
theorem popc_five : ∀ s, s < 32 → popc s = pc5 s := by decide +kernel
theorem iOut_l {rows outs : List Nat} (hr : ∀ u, rows.getD u 0 < 32) (hlen : outs.length = rows.length) (hl5 : rows.length ≤ 5) (ho : ∀ u, pc5 (rows.getD u 0) = outs.getD u 0) : ∀ d i : Nat, i + d = rows.length →
    Ev (fun k => impl_outOf.l0 k (toI (outs.take i ++ rows.drop i)) (rows.length : Int) (i : Int)) (toI outs) := by
  intro d
  induction d with
  | zero =>
    intro i hi
    refine Ev.step (f := fun _ => some (toI outs)) (fun k => ?_) (Ev.now _)
    simp only [impl_outOf.l0]
    rw [if_neg (by omega), List.take_of_length_le (by omega), List.drop_eq_nil_of_le (by omega), List.append_nil]
  | succ d ih =>
    intro i hi
    have hil : i < rows.length := by omega
    have hk := ih (i + 1) (by omega)
    have hL : (outs.take i ++ rows.drop i).length = rows.length := by rw [List.length_append, List.length_take, List.length_drop]; omega
    have hti : (outs.take i).length = i := by rw [List.length_take]; omega
    have hg : (outs.take i ++ rows.drop i).getD i 0 = rows.getD i 0 := by
      rw [List.getD_eq_getElem?_getD, List.getElem?_append_right (by omega), hti, Nat.sub_self, List.getElem?_drop, Nat.add_zero, ← List.getD_eq_getElem?_getD]
    have hs : (outs.take i ++ rows.drop i).set i (outs.getD i 0) = outs.take (i + 1) ++ rows.drop (i + 1) := by
      rw [List.set_append_right _ _ (by omega), hti, Nat.sub_self, List.drop_eq_getElem_cons hil, List.set_cons_zero, List.take_succ_eq_append_getElem (by omega), List.append_assoc, List.singleton_append, List.getD_eq_getElem?_getD, List.getElem?_eq_getElem (by omega)]
      rfl
    have hri := hr i
    have hon := ones_eq (s := rows.getD i 0) (by omega)
    rw [popc_five _ hri, ho] at hon
    have hw1 : wrap64 ((i : Int) + 1) = ((i + 1 : Nat) : Int) := by rw [wrap_id (by omega) (by omega)]; simp
    have g1 : (i : Int) < (rows.length : Int) := by clear hw1; omega
    have g2 : (i : Int) < ((toI (outs.take i ++ rows.drop i)).length : Int) := by clear hw1; rw [toI_length, hL]; omega
    have hu : IntKind.u64.wrap ((rows.getD i 0 : Nat) : Int) = ((rows.getD i 0 : Nat) : Int) := by
      clear hw1
      generalize rows.getD i 0 = x at hri
      exact (show ∀ x : Nat, x < 32 → IntKind.u64.wrap (x : Int) = (x : Int) by decide) x hri
    refine Ev.step (fun k => ?_) hk
    simp only [impl_outOf.l0]
    rw [if_pos g1, if_pos (Int.natCast_nonneg i), if_pos g2, rd_toI, hg, hu, hon]
    simp only [Option.bind_some]
    rw [Int.toNat_natCast, set_toI, hs, hw1]
theorem iOut_ev {m : Nat} {es : Ed} (hv : Valid m es) {b : Nat} (hb : b < 2 ^ es.length) :
    Ev (fun k => impl_outOf.f k (m : Int) (toS es) (b : Int)) (toI (outsOf m (dirs es b))) := by
  have h5 := hv.le
  have hR := dirs_inR hv.inR b
  unfold impl_outOf.f
  refine Ev.bind (nextOf_ev hv hb) ?_
  have h := iOut_l (rows := rowsOf m (dirs es b)) (outs := outsOf m (dirs es b)) (rows_small h5 hR) (by rw [rowsOf_length, outsOf_length]) (by rw [rowsOf_length]; exact h5) (fun u => pc_row h5 hR (dirs_nodup hv b) u) m 0 (by rw [rowsOf_length]; omega)
  rw [List.take_zero, List.drop_zero, List.nil_append] at h
  rw [toI_length]
  exact h
end Go.Proofs.Ytjhedhpippppeaa.Lk
