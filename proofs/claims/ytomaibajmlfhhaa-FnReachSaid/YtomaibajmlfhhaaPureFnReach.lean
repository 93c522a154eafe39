/-
  FnReach answers true: ways go on.
-/
import Derived.Test.YtomaibajmlfhhaaLkDrawN
import Derived.Test.YtomaibajmlfhhaaSWayReach
import Derived.Test.YtomaibajmlfhhaaPx23
import Derived.Test.YtomaibajmlfhhaaPx29
namespace Go.Proofs.Ytomaibajmlfhhaa.Pure
open Go Go.RowKit Go.Proofs.YtomaibajmlfhhaaW.PrintWords Go.Proofs.YtomaibajmlfhhaaW.PrintMore Go.Proofs.Ytomaibajmlfhhaa.P Go.Proofs.Ytomaibajmlfhhaa.Gw Go.Proofs.Ytomaibajmlfhhaa.Lk
set_option linter.unusedVariables false
set_option linter.unusedSimpArgs false
theorem reach_loop {m : Nat} {es : Ed} (hv : Valid m es) {b v : Nat} (hb : b < 2 ^ es.length) (hvm : v < m) : ∀ d w : Nat, w + d = m →
    Ev (fun k => laws_FnReach.l0 k (b : Int) (v : Int) ((close (rowsOf m (dirs es b)) (2 ^ v) : Nat) : Int) (w : Int) (m : Int) (toS es)) true := by
  have h5 := hv.le
  have hR := dirs_inR hv.inR b
  have hc := pow5 h5 (close_lt_n h5 hR hvm)
  intro d
  induction d with
  | zero =>
    intro w hwm
    refine Ev.step (f := fun _ => some true) (fun k => ?_) (Ev.now _)
    simp only [laws_FnReach.l0]
    rw [if_neg (by omega), if_pos (by omega), (bit_one (by omega) (by omega)).mpr (close_self _ v)]; rfl
  | succ d ih =>
    intro w hwm
    have hk := ih (w + 1) (by omega)
    have hw1 : wrap64 ((w : Int) + 1) = ((w + 1 : Nat) : Int) := by rw [wrap_id (by omega) (by omega)]; simp
    have hcw := pow5 h5 (close_lt_n h5 hR (show w < m by omega))
    cases ht : (close (rowsOf m (dirs es b)) (2 ^ v)).testBit w with
    | false =>
      refine Ev.step (fun k => ?_) hk
      simp only [laws_FnReach.l0]
      rw [if_pos (by omega), if_pos (by omega), if_pos ((bit_zero (by omega) (by omega)).mpr ht), hw1]
    | true =>
      have hne : ¬ (Go.bits .and .i64 (shr .i64 ((close (rowsOf m (dirs es b)) (2 ^ v) : Nat) : Int) (w : Int)) 1 = 0) := by rw [bit_zero (by omega) (by omega), ht]; simp
      have hsub := close_trans h5 hR hvm ht
      have h0 : andn (close (rowsOf m (dirs es b)) (2 ^ w)) (close (rowsOf m (dirs es b)) (2 ^ v)) = 0 := by
        apply eq_zero_of_bits; intro i
        rw [andn_bit]
        cases hi : (close (rowsOf m (dirs es b)) (2 ^ w)).testBit i with
        | false => rfl
        | true => rw [hsub i hi]; rfl
      refine Ev.step (fun k => rfl) ?_
      simp only [laws_FnReach.l0, if_pos (show (w : Int) < (m : Int) by omega), if_pos (show 0 ≤ (w : Int) by omega), if_neg hne]
      refine Ev.bind (impl_WayReach_ev hv hb (by omega)) ?_
      simp only [if_true, andn_nat (show close (rowsOf m (dirs es b)) (2 ^ w) < 2 ^ 62 by omega) (show close (rowsOf m (dirs es b)) (2 ^ v) < 2 ^ 62 by omega), h0, if_pos (show ((0 : Nat) : Int) = 0 by omega), hw1]
      exact hk
theorem FnReach : laws_FnReach.Pure := by
  intro l0 hm hb hw
  apply Ev.rounds
  simp only [laws_FnReach.f]
  by_cases hbig : (l0.length : Int) > 1048576
  · simp only [if_pos hbig]; exact Ev.now true
  simp only [if_neg hbig]
  obtain ⟨m, xs, o, v, h1, h5, hl, he⟩ := node_ev (by omega) hw
  have hd : Ev (fun k => spec_DrawWayReach.f k l0) ((m : Int), xs, o, v) := by unfold spec_DrawWayReach.f; exact Ev.bind he (Ev.now _)
  refine Ev.bind hd ?_
  by_cases hno : wIn (m : Int) xs o = false ∨ ¬ (0 ≤ v ∧ v < (m : Int))
  · refine Ev.bind (impl_WayReach_no hl hno) (Ev.bind (spec_WayReach_no hl hno) ?_)
    simp only [bne_self_eq_false, Bool.false_eq_true, if_false, if_true, Bool.not_false]
    refine Ev.step (fun k => rfl) ?_
    simp only [laws_FnReach.j0, if_true, beq_self_eq_true]; exact Ev.now _
  · have hin : wIn (m : Int) xs o = true := by cases h : wIn (m : Int) xs o with
      | true => rfl
      | false => exact absurd (.inl h) hno
    have hvr : 0 ≤ v ∧ v < (m : Int) := Classical.byContradiction fun h => hno (.inr h)
    obtain ⟨m', es, b, hmm, rfl, hv, rfl, hb⟩ := wIn_valid hin
    obtain rfl : m = m' := by omega
    obtain ⟨u, rfl⟩ := Int.eq_ofNat_of_zero_le hvr.1
    refine Ev.bind (impl_WayReach_ev hv hb (by omega)) (Ev.bind (spec_WayReach_ev hv hb (by omega)) ?_)
    simp only [bne_self_eq_false, Bool.false_eq_true, if_false, if_true, Bool.not_true]
    refine Ev.step (fun k => rfl) ?_
    simp only [laws_FnReach.j0, Bool.false_eq_true, if_false]
    exact reach_loop hv hb (by omega) m 0 (by omega)
end Go.Proofs.Ytomaibajmlfhhaa.Pure
