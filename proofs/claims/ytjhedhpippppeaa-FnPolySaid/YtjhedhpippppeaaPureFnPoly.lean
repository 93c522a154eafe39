/-
  FnPoly answers true: the polynomial's least power is the number of parts, its first number 1, its second the edges' count turned negative.
-/
import Derived.Test.YtjhedhpippppeaaLkDraw
import Derived.Test.YtjhedhpippppeaaSPlainPoly
import Derived.Test.YtjhedhpippppeaaLkWayParts
import Derived.Test.YtjhedhpippppeaaLkSame
import Derived.Test.YtjhedhpippppeaaPx39
import Derived.Test.YtjhedhpippppeaaPx27
namespace Go.Proofs.Ytjhedhpippppeaa.Pure
open Go Go.RowKit Go.Proofs.YtjhedhpippppeaaW.PrintWords Go.Proofs.YtjhedhpippppeaaW.PrintLast Go.Proofs.YtjhedhpippppeaaW.PrintMore Go.Proofs.Ytjhedhpippppeaa.P Go.Proofs.Ytjhedhpippppeaa.Gw Go.Proofs.Ytjhedhpippppeaa.Lk
set_option linter.unusedVariables false
set_option linter.unusedSimpArgs false
theorem poly_facts {m : Nat} {es : Ed} (hv : Valid m es) : (∀ k, k < ufF m es → (polyL m es).getD k 0 = 0) ∧ (polyL m es).getD (ufF m es) 0 ≠ 0 ∧ (polyL m es).getD m 0 = 1 ∧ (polyL m es).getD (m - 1) 0 = -(es.length : Int) := by
  have h5 := hv.le
  obtain ⟨_, p1, p2, p3⟩ := parts_chk hv
  have h := poly_chk hv
  unfold chkPolyT at h
  simp only [Bool.and_eq_true, List.all_eq_true, List.mem_range, Bool.not_eq_true'] at h
  obtain ⟨⟨⟨⟨⟨a1, a2⟩, a3⟩, a4⟩, _⟩, _⟩ := h
  have a3 := Nat.eq_of_beq_eq_true a3
  have a4 := Nat.eq_of_beq_eq_true a4
  refine ⟨fun k hk => ?_, fun he => ?_, ?_, ?_⟩
  · have := Nat.eq_of_beq_eq_true (a1 k hk)
    rw [polyL_dig hv (by omega)]; omega
  · rw [polyL_dig hv (by omega)] at he
    have e : pT (polyT m es) (ufF m es) = nT (polyT m es) (ufF m es) := by omega
    rw [e] at a2; simp at a2
  · rw [polyL_dig hv (by omega)]; omega
  · rw [polyL_dig hv (by omega)]; omega
theorem poly_loop {m : Nat} {es : Ed} (hv : Valid m es) : ∀ d i : Nat, i + d = ufF m es →
    Ev (fun k => laws_FnPoly.l0 k (polyL m es) ((ufF m es : Nat) : Int) true (m : Int) (i : Int) (m : Int) (toS es)) true := by
  have h5 := hv.le
  have h10 := hv.len
  obtain ⟨f1, f2, f3, f4⟩ := poly_facts hv
  obtain ⟨_, p1, p2, p3⟩ := parts_chk hv
  have hlen := polyL_len m es
  have hts : (toS es).length = es.length := toS_length es
  generalize ufF m es = u at *
  have hrd : ∀ i : Nat, rd (polyL m es) (i : Int) = (polyL m es).getD i 0 := by intro i; unfold rd; rw [Int.toNat_natCast]
  have hm1 : 1 ≤ m := hv.pos
  have e1 : wrap64 ((m : Int) + 1) = ((m + 1 : Nat) : Int) := by rw [wrap_id (by omega) (by omega)]; simp
  have e2 : wrap64 ((m : Int) - 1) = ((m - 1 : Nat) : Int) := by rw [wrap_id (by omega) (by omega)]; omega
  have e3 : wrap64 (-((toS es).length : Int)) = -(es.length : Int) := by rw [hts, wrap_id (by omega) (by omega)]
  intro d
  induction d with
  | zero =>
    intro i hi
    obtain rfl : i = u := by clear e1 e2 e3; omega
    refine Ev.step (f := fun _ => some true) (fun k => ?_) (Ev.now _)
    simp only [laws_FnPoly.l0]
    have q1 : ((polyL m es).length : Int) = ((m + 1 : Nat) : Int) := by rw [hlen]
    have q2 : (0 : Int) ≤ (m : Int) := Int.natCast_nonneg _
    have q3 : (m : Int) < ((polyL m es).length : Int) := by clear e1 e2 e3; omega
    have q4 : (0 : Int) ≤ ((m - 1 : Nat) : Int) := Int.natCast_nonneg _
    have q5 : ((m - 1 : Nat) : Int) < ((polyL m es).length : Int) := by clear e1 e2 e3; omega
    have q6 : (0 : Int) ≤ (i : Int) := Int.natCast_nonneg _
    have q7 : (i : Int) < ((polyL m es).length : Int) := by clear e1 e2 e3; omega
    rw [if_neg (Int.lt_irrefl _), if_pos trivial, e1, if_pos q1, if_pos q2, if_pos q3, hrd, f3, if_pos rfl, e2, if_pos q4, if_pos q5, hrd, e3, if_pos f4, if_pos q6, if_pos q7, hrd]
    simpa using f2
  | succ d ih =>
    intro i hi
    have hk := ih (i + 1) (by clear e1 e2 e3; omega)
    have hw1 : wrap64 ((i : Int) + 1) = ((i + 1 : Nat) : Int) := by clear e1 e2 e3; rw [wrap_id (by omega) (by omega)]; simp
    have g1 : (i : Int) < (u : Int) := by clear e1 e2 e3 hw1; omega
    have g2 : (0 : Int) ≤ (i : Int) := Int.natCast_nonneg _
    have g3 : (i : Int) < ((polyL m es).length : Int) := by clear e1 e2 e3 hw1; omega
    have g4 := f1 i (by clear e1 e2 e3 hw1; omega)
    refine Ev.step (fun k => ?_) hk
    simp only [laws_FnPoly.l0]
    rw [if_pos g1, if_pos g2, if_pos g3, hrd, if_pos g4, hw1]
theorem FnPoly : laws_FnPoly.Pure := by
  intro l0 hm hb hw
  apply Ev.rounds
  simp only [laws_FnPoly.f]
  by_cases hbig : (l0.length : Int) > 1048576
  · simp only [if_pos hbig]; exact Ev.now true
  simp only [if_neg hbig]
  obtain ⟨m, xs, h1, h5, hl, he⟩ := some_ev (by omega) hw
  have hd : Ev (fun k => spec_DrawPlainPoly.f k l0) ((m : Int), xs) := by unfold spec_DrawPlainPoly.f; exact Ev.bind he (Ev.now _)
  refine Ev.bind hd ?_
  cases hg : gOk (m : Int) xs with
  | false =>
    refine Ev.bind (implPoly_no hl hg) (Ev.bind (specPoly_no hl hg) ?_)
    simp only [bne_self_eq_false, Bool.false_eq_true, if_false, Bool.not_false]
    refine Ev.bind (sameInts_ev (by simp)) ?_
    simp only [if_true]
    refine Ev.step (fun k => by simp only [laws_FnPoly.j0]; rfl) ?_
    simp only [if_true, beq_self_eq_true]
    exact Ev.bind (sameInts_ev (by simp)) (Ev.now _)
  | true =>
    obtain ⟨m', es, hmm, rfl, hv⟩ := gOk_valid hg
    obtain rfl : m = m' := by omega
    refine Ev.bind (implPoly_ev hv) (Ev.bind (specPoly_ev hv) ?_)
    have hlen := polyL_len m es
    simp only [bne_self_eq_false, Bool.false_eq_true, if_false, Bool.not_true]
    refine Ev.bind (sameInts_ev (by omega)) ?_
    simp only [if_true]
    refine Ev.step (fun k => by simp only [laws_FnPoly.j0]; rfl) ?_
    simp only [Bool.false_eq_true, if_false]
    refine Ev.bind (implWayParts_ev hv) ?_
    exact poly_loop hv (ufF m es) 0 (by omega)
end Go.Proofs.Ytjhedhpippppeaa.Pure
