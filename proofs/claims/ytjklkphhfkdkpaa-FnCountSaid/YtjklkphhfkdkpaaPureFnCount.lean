/-
  FnCount answers true: the acyclic directions are as many as the polynomial at -1 tells, and even in number where there are edges.
-/
import Derived.Test.YtjklkphhfkdkpaaMFnCount
import Derived.Test.YtjklkphhfkdkpaaPx36
import Derived.Test.YtjklkphhfkdkpaaPx29
namespace Go.Proofs.Ytjklkphhfkdkpaa.Pure
open Go Go.RowKit Go.Proofs.YtjklkphhfkdkpaaW.PrintWords Go.Proofs.YtjklkphhfkdkpaaW.PrintLast Go.Proofs.YtjklkphhfkdkpaaW.PrintMore Go.Proofs.Ytjklkphhfkdkpaa.P Go.Proofs.Ytjklkphhfkdkpaa.Gw Go.Proofs.Ytjklkphhfkdkpaa.Lk
set_option linter.unusedVariables false
set_option linter.unusedSimpArgs false
theorem count_loop {m : Nat} {es : Ed} (hv : Valid m es) : ∀ j d : Nat, j + d = m + 1 →
    Ev (fun k => laws_FnCount.l0 k ((cPlain m es : Nat) : Int) (polyL m es) true (hm (polyL m es) d j) ((j : Int) - 1) (m : Int) (toS es)) true := by
  have h5 := hv.le
  have h10 := hv.len
  have hlen := polyL_len m es
  have hts : (toS es).length = es.length := toS_length es
  intro j
  induction j with
  | zero =>
    intro d hd
    obtain rfl : d = m + 1 := by omega
    obtain ⟨c1, c2⟩ := count_chk hv
    have hbd := hm_bd (polyL_bd hv) (m + 1) 0
    have hle := Lk.cntP_le (fun o => plainF m (rowsOf m (dirs es o))) (2 ^ es.length)
    have hp := pow_le h10
    rw [show cntP (fun o => plainF m (rowsOf m (dirs es o))) (2 ^ es.length) = cPlain m es from rfl] at hle
    generalize cPlain m es = q at *
    generalize hm (polyL m es) (m + 1) 0 = y at *
    have hw : wrap64 (-y) = -y := wrap_id (by omega) (by omega)
    have hmx : mx y (wrap64 (-y)) = (q : Int) := by
      rw [hw]; unfold mx; clear hw; by_cases h : y < -y
      · rw [if_pos h]; omega
      · rw [if_neg h]; omega
    clear hw
    refine Ev.step (f := fun _ => some true) (fun k => ?_) (Ev.now _)
    simp only [laws_FnCount.l0, if_true]
    rw [if_neg (by omega), if_pos hmx, hts]
    by_cases hz : es.length = 0
    · rw [if_pos (by omega)]
    · rw [if_neg (by omega)]
      have : Int.tmod (q : Int) 2 = 0 := by
        rw [Int.tmod_eq_emod_of_nonneg (by omega)]; omega
      rw [this]; rfl
  | succ j ih =>
    intro d hd
    have hk := ih (d + 1) (by omega)
    have hb := hm_bd (polyL_bd hv) (d + 1) j
    have hrd : rd (polyL m es) (j : Int) = (polyL m es).getD j 0 := by unfold rd; rw [Int.toNat_natCast]
    rw [hm] at hk hb
    have hw : wrap64 ((j : Int) - 1) = (j : Int) - 1 := wrap_id (by omega) (by omega)
    have e : (((j + 1 : Nat) : Int) - 1) = (j : Int) := by omega
    have hw2 : wrap64 ((polyL m es).getD j 0 - hm (polyL m es) d (j + 1)) = (polyL m es).getD j 0 - hm (polyL m es) d (j + 1) := by clear hw; exact wrap_id (by omega) (by omega)
    have g1 : (j : Int) < ((polyL m es).length : Int) := by clear hw hw2; omega
    refine Ev.step (fun k => ?_) hk
    simp only [laws_FnCount.l0]
    rw [e, if_pos (show (j : Int) ≥ 0 from Int.natCast_nonneg j), if_pos (Int.natCast_nonneg j), if_pos g1, hrd, hw2, hw]
theorem FnCount : laws_FnCount.Pure := by
  intro l0 hm' hb hw
  apply Ev.rounds
  simp only [laws_FnCount.f]
  by_cases hbig : (l0.length : Int) > 1048576
  · simp only [if_pos hbig]; exact Ev.now true
  simp only [if_neg hbig]
  obtain ⟨m, xs, h1, h5, hl, he⟩ := some_ev (by omega) hw
  have hd : Ev (fun k => spec_DrawPlainCount.f k l0) ((m : Int), xs) := by unfold spec_DrawPlainCount.f; exact Ev.bind he (Ev.now _)
  refine Ev.bind hd ?_
  cases hg : gOk (m : Int) xs with
  | false =>
    refine Ev.bind (impl_PlainCount_no hl hg) (Ev.bind (spec_PlainCount_no hl hg) ?_)
    simp only [bne_self_eq_false, Bool.false_eq_true, if_false, if_true, Bool.not_false]
    refine Ev.step (fun k => by simp only [laws_FnCount.j0]; rfl) ?_
    simp only [if_true, beq_self_eq_true]; exact Ev.now _
  | true =>
    obtain ⟨m', es, hmm, rfl, hv⟩ := gOk_valid hg
    obtain rfl : m = m' := by omega
    have hlen := polyL_len m es
    refine Ev.bind (impl_PlainCount_ev hv) (Ev.bind (spec_PlainCount_ev hv) ?_)
    simp only [bne_self_eq_false, Bool.false_eq_true, if_false, if_true, Bool.not_true]
    refine Ev.step (fun k => by simp only [laws_FnCount.j0]; rfl) ?_
    simp only [Bool.false_eq_true, if_false]
    refine Ev.bind (implPoly_ev hv) ?_
    have h := count_loop hv (m + 1) 0 (by omega)
    have e : wrap64 (((polyL m es).length : Int) - 1) = (((m + 1 : Nat) : Int) - 1) := by rw [hlen, wrap_id (by omega) (by omega)]
    simp only [e]
    exact h
end Go.Proofs.Ytjklkphhfkdkpaa.Pure
