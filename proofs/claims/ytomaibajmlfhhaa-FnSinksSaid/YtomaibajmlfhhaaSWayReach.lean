/-
  WayReach of the program and of the reference tell the same, for every graph and numbers.
-/
import Derived.Test.YtomaibajmlfhhaaLkNext
import Derived.Test.YtomaibajmlfhhaaLkReach
import Derived.Test.YtomaibajmlfhhaaLkRefReach
import Derived.Test.YtomaibajmlfhhaaPx25
import Derived.Test.YtomaibajmlfhhaaPx28
namespace Go.Proofs.Ytomaibajmlfhhaa.Lk
open Go Go.RowKit Go.Proofs.YtomaibajmlfhhaaW.PrintWords Go.Proofs.YtomaibajmlfhhaaW.PrintLast Go.Proofs.YtomaibajmlfhhaaW.PrintMore Go.Proofs.Ytomaibajmlfhhaa.P Go.Proofs.Ytomaibajmlfhhaa.Gw
set_option linter.unusedVariables false
set_option linter.unusedSimpArgs false
theorem lenR {m : Nat} {es : Ed} (hv : Valid m es) : (toS es).length < 2 ^ 62 := by rw [toS_length]; have := hv.len; omega
theorem reach_j0 {n o v : Int} {ys : List S34} : Ev (fun k => impl_WayReach.j0 k o v true n ys) (0, false) :=
  Ev.step (f := fun _ => some (0, false)) (fun k => by simp only [impl_WayReach.j0]; rw [if_pos trivial]) (Ev.now _)
theorem impl_WayReach_no {n o v : Int} {ys : List S34} (hl : ys.length < 2 ^ 62) (hw : wIn n ys o = false ∨ ¬ (0 ≤ v ∧ v < n)) : Ev (fun k => impl_WayReach.f k n ys o v) (0, false) := by
  unfold impl_WayReach.f
  refine Ev.bind (impl_wayIn hl) ?_
  cases hin : wIn n ys o with
  | false => simp only [Bool.false_eq_true, if_false]; exact reach_j0
  | true =>
    have hv : ¬ (0 ≤ v ∧ v < n) := hw.resolve_left (by rw [hin]; simp)
    simp only [if_true]
    by_cases h0 : v < 0
    · simp only [if_pos h0]; exact reach_j0
    · simp only [if_neg h0, decide_eq_true (show v ≥ n by omega)]; exact reach_j0
theorem spec_WayReach_no {n o v : Int} {ys : List S34} (hl : ys.length < 2 ^ 62) (hw : wIn n ys o = false ∨ ¬ (0 ≤ v ∧ v < n)) : Ev (fun k => spec_WayReach.f k n ys o v) (0, false) := by
  unfold spec_WayReach.f
  refine Ev.bind (spec_wayIn hl) ?_
  cases hin : wIn n ys o with
  | false => simp only [Bool.false_eq_true, if_false]; exact Ev.now _
  | true =>
    have hv : ¬ (0 ≤ v ∧ v < n) := hw.resolve_left (by rw [hin]; simp)
    obtain ⟨m, es, b, rfl, rfl, hval, rfl, hb⟩ := wIn_valid hin
    have h5 := hval.le; have h1 := hval.pos
    have : (decide (0 ≤ v) && decide (v ≤ (m : Int) - 1)) = false := by
      rw [Bool.and_eq_false_iff, decide_eq_false_iff_not, decide_eq_false_iff_not]; omega
    simp only [if_true, l6In_eq, Option.bind_some, wrap_id (x := (m : Int) - 1) (by omega) (by omega), this, Bool.false_eq_true, if_false]; exact Ev.now _
theorem impl_WayReach_ev {m : Nat} {es : Ed} (hv : Valid m es) {b : Nat} (hb : b < 2 ^ es.length) {v : Nat} (hvm : v < m) :
    Ev (fun k => impl_WayReach.f k (m : Int) (toS es) (b : Int) (v : Int)) (((close (rowsOf m (dirs es b)) (2 ^ v) : Nat) : Int), true) := by
  unfold impl_WayReach.f
  refine Ev.bind (impl_wayIn (lenR hv)) ?_
  rw [wIn_iff hv, decide_eq_true hb]
  simp only [if_true, if_neg (show ¬ (v : Int) < 0 by omega), decide_eq_false (show ¬ (v : Int) ≥ (m : Int) by omega)]
  refine Ev.step (fun k => rfl) ?_
  simp only [impl_WayReach.j0, Bool.false_eq_true, if_false]
  exact Ev.bind (nextOf_ev hv hb) (Ev.bind (reachOf_ev hv.le (dirs_inR hv.inR b) hvm) (Ev.now _))
theorem spec_WayReach_ev {m : Nat} {es : Ed} (hv : Valid m es) {b : Nat} (hb : b < 2 ^ es.length) {v : Nat} (hvm : v < m) :
    Ev (fun k => spec_WayReach.f k (m : Int) (toS es) (b : Int) (v : Int)) (((close (rowsOf m (dirs es b)) (2 ^ v) : Nat) : Int), true) := by
  unfold spec_WayReach.f
  refine Ev.bind (spec_wayIn (lenR hv)) ?_
  have h5 := hv.le; have h1 := hv.pos
  rw [wIn_iff hv, decide_eq_true hb]
  have : (decide (0 ≤ (v : Int)) && decide ((v : Int) ≤ (m : Int) - 1)) = true := by
    rw [decide_eq_true (show 0 ≤ (v : Int) by omega), decide_eq_true (show (v : Int) ≤ (m : Int) - 1 by omega)]; rfl
  simp only [if_true, l6In_eq, Option.bind_some, wrap_id (x := (m : Int) - 1) (by omega) (by omega), this, if_pos (show 0 ≤ (v : Int) by omega), shl_nat (show v ≤ 61 by omega)]
  exact Ev.bind (refReach_ev hv hb hvm) (Ev.now _)
theorem same_WayReach (n : Int) (ys : List S34) (o v : Int) (hl : ys.length < 2 ^ 62) : ∃ r, Ev (fun k => spec_WayReach.f k n ys o v) r ∧ Ev (fun k => impl_WayReach.f k n ys o v) r := by
  cases hw : wIn n ys o with
  | false => exact ⟨_, spec_WayReach_no hl (.inl hw), impl_WayReach_no hl (.inl hw)⟩
  | true =>
    obtain ⟨m, es, b, rfl, rfl, hv, rfl, hb⟩ := wIn_valid hw
    by_cases h : 0 ≤ v ∧ v < (m : Int)
    · obtain ⟨u, rfl⟩ := Int.eq_ofNat_of_zero_le h.1
      exact ⟨_, spec_WayReach_ev hv hb (by omega), impl_WayReach_ev hv hb (by omega)⟩
    · exact ⟨_, spec_WayReach_no hl (.inr h), impl_WayReach_no hl (.inr h)⟩
end Go.Proofs.Ytomaibajmlfhhaa.Lk
