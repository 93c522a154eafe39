/-
  FnColours answers true: the ways to colour are from 0 to k^n, k divides them, and without edges they are k^n.
-/
import Derived.Test.YtjhedhpippppeaaLkDraw
import Derived.Test.YtjhedhpippppeaaSPlainColours
import Derived.Test.YtjhedhpippppeaaPx45
import Derived.Test.YtjhedhpippppeaaPx40
namespace Go.Proofs.Ytjhedhpippppeaa.Pure
open Go Go.RowKit Go.Proofs.YtjhedhpippppeaaW.PrintWords Go.Proofs.YtjhedhpippppeaaW.PrintLast Go.Proofs.YtjhedhpippppeaaW.PrintMore Go.Proofs.Ytjhedhpippppeaa.P Go.Proofs.Ytjhedhpippppeaa.Gw Go.Proofs.Ytjhedhpippppeaa.Lk
set_option linter.unusedVariables false
set_option linter.unusedSimpArgs false
theorem coloursDraw_ev {l : List Int} (hl : l.length ≤ 1048576) (hb : ∀ x ∈ l, (Lit.int .u8 x).wf = true) : ∃ (m : Nat) (xs : List S33) (o : Int), 1 ≤ m ∧ m ≤ 5 ∧ xs.length < 2 ^ 62 ∧ Ev (fun k => spec_DrawPlainColours.f k l) ((m : Int), xs, o) := by
  obtain ⟨b, hc, ho⟩ := open_ev hl hb
  obtain ⟨m, xs, p, hd, he⟩ := graph_ev hc
  have hlen := hd.len
  have hat := hd.at_
  obtain ⟨q1, _, _, hq1⟩ := pick_ev hc p (by omega) 6
  obtain ⟨q2, _, _, hq2⟩ := pick_ev hc (p + 1) (by omega) 24
  obtain ⟨q3, _, _, hq3⟩ := pick_ev hc (p + 1 + 1) (by omega) 24
  refine ⟨m, xs, wrap64 (wrap64 (q1 - wrap64 (Int.tdiv q2 23)) + wrap64 (wrap64 (Int.tdiv q3 23) * 6)), hd.pos, hd.le, by omega, ?_⟩
  unfold spec_DrawPlainColours.f
  simp only [ho, Option.bind_some]
  exact Ev.bind he (Ev.bind hq1 (Ev.bind hq2 (Ev.bind hq3 (Ev.now _))))
theorem pow_small {x i : Nat} (hx : x ≤ 10) (hi : i ≤ 5) : x ^ i ≤ 100000 := by
  have h1 : x ^ i ≤ 10 ^ i := Nat.pow_le_pow_left hx i
  have h2 : 10 ^ i ≤ 10 ^ 5 := Nat.pow_le_pow_right (by omega) hi
  omega
theorem colours_loop {m : Nat} {es : Ed} (hv : Valid m es) {x : Nat} (hx : x ≤ 10) : ∀ d i : Nat, i + d = m →
    Ev (fun k => laws_FnColours.l0 k (x : Int) (colV m es x) ((x ^ i : Nat) : Int) (i : Int) (m : Int) (toS es)) true := by
  have h5 := hv.le
  intro d
  induction d with
  | zero =>
    intro i hi
    obtain rfl : i = m := by omega
    refine Ev.step (f := fun _ => some true) (fun k => ?_) (Ev.now _)
    simp only [laws_FnColours.l0]
    rw [if_neg (by omega)]
    obtain ⟨c1, c2, c3⟩ := col_chk hv hx
    by_cases h0 : x = 0
    · have hc := c2 h0
      subst h0
      simp [hc]
    · obtain ⟨d1, d2, d3⟩ := c3 (by omega)
      have hts : (toS es).length = es.length := toS_length es
      generalize colV i es x = c at *
      generalize ((x ^ i : Nat) : Int) = y at *
      rw [if_neg (by omega), if_pos (by omega), if_pos c1, if_pos d1, if_pos d2, hts]
      by_cases hl : es.length = 0
      · rw [if_neg (by omega), d3 hl]; simp
      · rw [if_pos (by omega)]
  | succ d ih =>
    intro i hi
    have hk := ih (i + 1) (by omega)
    have hw1 : wrap64 ((i : Int) + 1) = ((i + 1 : Nat) : Int) := by rw [wrap_id (by omega) (by omega)]; simp
    have hp := pow_small hx (show i + 1 ≤ 5 by omega)
    have hw2 : wrap64 (((x ^ i : Nat) : Int) * (x : Int)) = ((x ^ (i + 1) : Nat) : Int) := by
      have e : ((x ^ i : Nat) : Int) * (x : Int) = ((x ^ (i + 1) : Nat) : Int) := by rw [Nat.pow_succ, Int.natCast_mul]
      rw [e, wrap_id (by omega) (by omega)]
    have g1 : (i : Int) < (m : Int) := by clear hw1 hw2; omega
    refine Ev.step (fun k => ?_) hk
    simp only [laws_FnColours.l0]
    rw [if_pos g1, hw1, hw2]
theorem FnColours : laws_FnColours.Pure := by
  intro l0 hm hb hw
  apply Ev.rounds
  simp only [laws_FnColours.f]
  by_cases hbig : (l0.length : Int) > 1048576
  · simp only [if_pos hbig]; exact Ev.now true
  simp only [if_neg hbig]
  obtain ⟨m, xs, o, h1, h5, hl, hd⟩ := coloursDraw_ev (by omega) hw
  refine Ev.bind hd ?_
  cases hg : gOk (m : Int) xs with
  | false =>
    refine Ev.bind (implColours_no hl hg o) (Ev.bind (specColours_no hl hg o) ?_)
    simp only [bne_self_eq_false, Bool.false_eq_true, if_false, if_true, Bool.not_false]
    refine Ev.step (fun k => by simp only [laws_FnColours.j0]; rfl) ?_
    simp only [if_true, beq_self_eq_true]
    exact Ev.now _
  | true =>
    obtain ⟨m', es, hmm, rfl, hv⟩ := gOk_valid hg
    obtain rfl : m = m' := by omega
    have c1 := implColours_ev hv o
    have c2 := specColours_ev hv o
    by_cases hk : 0 ≤ o ∧ o ≤ 10
    · rw [if_pos hk] at c1 c2
      refine Ev.bind c1 (Ev.bind c2 ?_)
      simp only [bne_self_eq_false, Bool.false_eq_true, if_false, if_true, Bool.not_true]
      refine Ev.step (fun k => by simp only [laws_FnColours.j0]; rfl) ?_
      simp only [Bool.false_eq_true, if_false]
      obtain ⟨x, rfl⟩ : ∃ x : Nat, o = (x : Int) := ⟨o.toNat, by omega⟩
      rw [Int.toNat_natCast]
      exact colours_loop hv (by omega) m 0 (by omega)
    · rw [if_neg hk] at c1 c2
      refine Ev.bind c1 (Ev.bind c2 ?_)
      simp only [bne_self_eq_false, Bool.false_eq_true, if_false, if_true, Bool.not_false]
      refine Ev.step (fun k => by simp only [laws_FnColours.j0]; rfl) ?_
      simp only [if_true, beq_self_eq_true]
      exact Ev.now _
end Go.Proofs.Ytjhedhpippppeaa.Pure
