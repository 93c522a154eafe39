/-
  PlainLeast of the program and of the reference tell the same, for every graph: the fewest colours that colour it.
-/
import Derived.Test.YtjhedhpippppeaaLkIPoly
import Derived.Test.YtjhedhpippppeaaLkRPoly
import Derived.Test.YtjhedhpippppeaaLkIVal
import Derived.Test.YtjhedhpippppeaaLkRVal
import Derived.Test.YtjhedhpippppeaaPx59
import Derived.Test.YtjhedhpippppeaaPx60
namespace Go.Proofs.Ytjhedhpippppeaa.Lk
open Go Go.RowKit Go.Proofs.YtjhedhpippppeaaW.PrintWords Go.Proofs.YtjhedhpippppeaaW.PrintLast Go.Proofs.YtjhedhpippppeaaW.PrintMore Go.Proofs.Ytjhedhpippppeaa.P Go.Proofs.Ytjhedhpippppeaa.Gw
set_option linter.unusedVariables false
set_option linter.unusedSimpArgs false
/-- the first number from j on at which the value is not zero -/
def leastAt (m : Nat) (es : Ed) : Nat → Nat → Nat
  | 0, j => j
  | d + 1, j => if colV m es j = 0 then leastAt m es d (j + 1) else j
def least (m : Nat) (es : Ed) : Nat := leastAt m es (m - 1) 1
theorem implLeast_l {m : Nat} {es : Ed} (hv : Valid m es) : ∀ d j : Nat, j + d = m →
    Ev (fun k => impl_PlainLeast.l0 k (polyL m es) (j : Int)) ((leastAt m es d j : Int), true) := by
  have h5 := hv.le
  intro d
  induction d with
  | zero =>
    intro j hj
    obtain rfl : j = m := by omega
    refine Ev.step (fun k => by simp only [impl_PlainLeast.l0]; rfl) ?_
    refine Ev.bind (IVal_ev hv (by omega)) ?_
    simp only [col_m hv, if_false]; exact Ev.now _
  | succ d ih =>
    intro j hj
    refine Ev.step (fun k => by simp only [impl_PlainLeast.l0]; rfl) ?_
    refine Ev.bind (IVal_ev hv (by omega)) ?_
    rw [leastAt]
    by_cases h : colV m es j = 0
    · simp only [h, if_true]
      have := ih (j + 1) (by omega)
      rw [wrap_id (by omega) (by omega)]
      exact_mod_cast this
    · simp only [h, if_false]; exact Ev.now _
theorem specLeast_l {m : Nat} {es : Ed} (hv : Valid m es) : ∀ d j : Nat, j + d = m →
    Ev (fun k => spec_PlainLeast.l0 k (j : Int) (m : Int) (toS es)) ((leastAt m es d j : Int), true) := by
  have h5 := hv.le
  intro d
  induction d with
  | zero =>
    intro j hj
    obtain rfl : j = m := by omega
    refine Ev.step (fun k => by simp only [spec_PlainLeast.l0]; rfl) ?_
    refine Ev.bind (refPoly_ev hv) ?_
    refine Ev.bind (RVal_ev hv (by omega)) ?_
    simp only [col_m hv, if_false]; exact Ev.now _
  | succ d ih =>
    intro j hj
    refine Ev.step (fun k => by simp only [spec_PlainLeast.l0]; rfl) ?_
    refine Ev.bind (refPoly_ev hv) ?_
    refine Ev.bind (RVal_ev hv (by omega)) ?_
    rw [leastAt]
    by_cases h : colV m es j = 0
    · simp only [h, if_true]
      have := ih (j + 1) (by omega)
      rw [wrap_id (by omega) (by omega)]
      exact_mod_cast this
    · simp only [h, if_false]; exact Ev.now _
theorem implLeast_ev {m : Nat} {es : Ed} (hv : Valid m es) : Ev (fun i => impl_PlainLeast.f i (m : Int) (toS es)) ((least m es : Int), true) := by
  unfold impl_PlainLeast.f
  refine Ev.bind (implPoly_ev hv) ?_
  simp only [if_true]
  have h := implLeast_l hv m 0 (by omega)
  have hm : 0 < m := hv.pos
  obtain ⟨d, rfl⟩ : ∃ d, m = d + 1 := ⟨m - 1, by omega⟩
  rw [leastAt, if_pos ((col_chk hv (x := 0) (by omega)).2.1 rfl)] at h
  exact h
theorem specLeast_ev {m : Nat} {es : Ed} (hv : Valid m es) : Ev (fun i => spec_PlainLeast.f i (m : Int) (toS es)) ((least m es : Int), true) := by
  unfold spec_PlainLeast.f
  refine Ev.bind (spec_wayGraph (by rw [toS_length]; have := hv.len; omega)) ?_
  rw [valid_gOk_iff hv]
  simp only [if_true]
  exact specLeast_l hv (m - 1) 1 (by have := hv.pos; omega)
theorem specLeast_no {n : Int} {ys : List S33} (hl : ys.length < 2 ^ 62) (hw : gOk n ys = false) : Ev (fun i => spec_PlainLeast.f i n ys) (0, false) := by
  unfold spec_PlainLeast.f
  exact Ev.bind (spec_wayGraph hl) (by simpa [hw] using Ev.now _)
theorem implLeast_no {n : Int} {ys : List S33} (hl : ys.length < 2 ^ 62) (hw : gOk n ys = false) : Ev (fun i => impl_PlainLeast.f i n ys) (0, false) := by
  unfold impl_PlainLeast.f
  exact Ev.bind (implPoly_no hl hw) (by simpa using Ev.now _)
theorem same_PlainLeast (n : Int) (ys : List S33) (hl : ys.length < 2 ^ 62) : ∃ r : Int × Bool, Ev (fun i => spec_PlainLeast.f i n ys) r ∧ Ev (fun i => impl_PlainLeast.f i n ys) r := by
  cases hw : gOk n ys with
  | false => exact ⟨_, specLeast_no hl hw, implLeast_no hl hw⟩
  | true =>
    obtain ⟨m, es, rfl, rfl, hv⟩ := gOk_valid hw
    exact ⟨_, specLeast_ev hv, implLeast_ev hv⟩
end Go.Proofs.Ytjhedhpippppeaa.Lk
