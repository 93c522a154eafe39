/-
  FnSinks answers true: sinks reach themselves alone.
-/
import Derived.Test.YtomaibajmlfhhaaLkDraw2
import Derived.Test.YtomaibajmlfhhaaSWaySinks
import Derived.Test.YtomaibajmlfhhaaSWayReach
import Derived.Test.YtomaibajmlfhhaaLkThm1
import Derived.Test.YtomaibajmlfhhaaPx60
import Derived.Test.YtomaibajmlfhhaaPx62
namespace Go.Proofs.Ytomaibajmlfhhaa.Pure
open Go Go.RowKit Go.Proofs.YtomaibajmlfhhaaW.PrintWords Go.Proofs.YtomaibajmlfhhaaW.PrintMore Go.Proofs.Ytomaibajmlfhhaa.P Go.Proofs.Ytomaibajmlfhhaa.Gw Go.Proofs.Ytomaibajmlfhhaa.Lk
set_option linter.unusedVariables false
set_option linter.unusedSimpArgs false
theorem sinks_loop {m : Nat} {es : Ed} (hv : Valid m es) {b : Nat} (hb : b < 2 ^ es.length) : ∀ d v : Nat, v + d = m →
    Ev (fun k => laws_FnSinks.l0 k (b : Int) ((sinksF (rowsOf m (dirs es b)) : Nat) : Int) (v : Int) (m : Int) (toS es)) true := by
  have h5 := hv.le
  have hR := dirs_inR hv.inR b
  have hs : sinksF (rowsOf m (dirs es b)) < 2 ^ 62 := by
    apply small (n := 5) (by omega)
    apply lt_two_pow_of_bits
    intro i hi
    rw [sinksF_bit] at hi
    have := (List.getElem?_eq_some_iff.mp hi).1
    rw [rowsOf_length] at this; omega
  intro d
  induction d with
  | zero =>
    intro v hvm
    refine Ev.step (f := fun _ => some true) (fun k => ?_) (Ev.now _)
    simp only [laws_FnSinks.l0]; rw [if_neg (by omega)]
  | succ d ih =>
    intro v hvm
    have hk := ih (v + 1) (by omega)
    have hw1 : wrap64 ((v : Int) + 1) = ((v + 1 : Nat) : Int) := by rw [wrap_id (by omega) (by omega)]; simp
    have hsc := sink_close h5 hR (dirs_noloop hv b) (show v < m by omega)
    have hbit : (Go.bits .and .i64 (shr .i64 ((sinksF (rowsOf m (dirs es b)) : Nat) : Int) (v : Int)) 1 == 1) = (sinksF (rowsOf m (dirs es b))).testBit v := by
      rw [Bool.eq_iff_iff, beq_iff_eq, bit_one hs (by omega)]
    have heq : (((close (rowsOf m (dirs es b)) (2 ^ v) : Nat) : Int) == ((2 ^ v : Nat) : Int)) = (sinksF (rowsOf m (dirs es b))).testBit v := by
      rw [Bool.eq_iff_iff, beq_iff_eq, ← hsc]; exact Int.ofNat_inj
    refine Ev.step (fun k => rfl) ?_
    simp only [laws_FnSinks.l0, if_pos (show (v : Int) < (m : Int) by omega)]
    refine Ev.bind (impl_WayReach_ev hv hb (by omega)) ?_
    simp only [if_true, if_pos (show 0 ≤ (v : Int) by omega), shl_nat (show v ≤ 61 by omega), hbit, heq, bne_self_eq_false, Bool.false_eq_true, if_false, hw1]
    exact hk
theorem FnSinks : laws_FnSinks.Pure := by
  intro l0 hm hb hw
  apply Ev.rounds
  simp only [laws_FnSinks.f]
  by_cases hbig : (l0.length : Int) > 1048576
  · simp only [if_pos hbig]; exact Ev.now true
  simp only [if_neg hbig]
  obtain ⟨m, xs, o, h1, h5, hl, he⟩ := two_ev (by omega) hw
  have hd : Ev (fun k => spec_DrawWaySinks.f k l0) ((m : Int), xs, o) := by unfold spec_DrawWaySinks.f; exact Ev.bind he (Ev.now _)
  refine Ev.bind hd ?_
  cases hin : wIn (m : Int) xs o with
  | false =>
    refine Ev.bind (impl_WaySinks_no hl hin) (Ev.bind (spec_WaySinks_no hl hin) ?_)
    simp only [bne_self_eq_false, Bool.false_eq_true, if_false, if_true, Bool.not_false]
    refine Ev.step (fun k => rfl) ?_
    simp only [laws_FnSinks.j0, if_true, beq_self_eq_true]; exact Ev.now _
  | true =>
    obtain ⟨m', es, b, hmm, rfl, hv, rfl, hb⟩ := wIn_valid hin
    obtain rfl : m = m' := by omega
    refine Ev.bind (impl_WaySinks_ev hv hb) (Ev.bind (spec_WaySinks_ev hv hb) ?_)
    simp only [bne_self_eq_false, Bool.false_eq_true, if_false, if_true, Bool.not_true]
    refine Ev.step (fun k => rfl) ?_
    simp only [laws_FnSinks.j0, Bool.false_eq_true, if_false]
    exact sinks_loop hv hb m 0 (by omega)
end Go.Proofs.Ytomaibajmlfhhaa.Pure
