/-
  FnFlip answers true: flipped twice it is as it was, and just the two nodes of the edge change what leads from them.
-/
import Derived.Test.YtomaibajmlfhhaaMFnFlip
import Derived.Test.YtomaibajmlfhhaaPx20
import Derived.Test.YtomaibajmlfhhaaPx5
namespace Go.Proofs.Ytomaibajmlfhhaa.Pure
open Go Go.RowKit Go.Proofs.YtomaibajmlfhhaaW.PrintWords Go.Proofs.YtomaibajmlfhhaaW.PrintLast Go.Proofs.YtomaibajmlfhhaaW.PrintMore Go.Proofs.Ytomaibajmlfhhaa.P Go.Proofs.Ytomaibajmlfhhaa.Gw Go.Proofs.Ytomaibajmlfhhaa.Lk
set_option linter.unusedVariables false
set_option linter.unusedSimpArgs false
theorem ev_uniq {α : Type} {g : Nat → Option α} {a b : α} (h : Ev g a) (k : Ev g b) : a = b := by
  obtain ⟨K1, h⟩ := h
  obtain ⟨K2, k⟩ := k
  exact Option.some.inj ((h (max K1 K2) (Nat.le_max_left ..)).symm.trans (k (max K1 K2) (Nat.le_max_right ..)))
theorem flipDraw_ev {l : List Int} (hl : l.length ≤ 1048576) (hb : ∀ x ∈ l, (Lit.int .u8 x).wf = true) : ∃ (m : Nat) (xs : List S34) (o i : Int), 1 ≤ m ∧ m ≤ 5 ∧ xs.length < 2 ^ 62 ∧ Ev (fun k => spec_DrawWayFlip.f k l) ((m : Int), xs, o, i) := by
  obtain ⟨b, hc, ho⟩ := open_ev hl hb
  obtain ⟨m, xs, p, hd, he⟩ := graph_ev hc
  obtain ⟨o, p', hp', hw⟩ := way_ev hc hd
  obtain ⟨r1, _, _, e1⟩ := pick_ev hc p' (by omega) 24
  obtain ⟨r2, _, _, e2⟩ := pick_ev hc (p' + 1) (by omega) (wrap64 ((xs.length : Int) + wrap64 (Int.tdiv r1 23)))
  obtain ⟨r3, _, _, e3⟩ := pick_ev hc (p' + 1 + 1) (by omega) 24
  refine ⟨m, xs, o, wrap64 (r2 - wrap64 (Int.tdiv r3 23)), hd.pos, hd.le, by have := hd.len; omega, ?_⟩
  unfold spec_DrawWayFlip.f
  simp only [ho, Option.bind_some]
  exact Ev.bind he (Ev.bind hw (Ev.bind e1 (Ev.bind e2 (Ev.bind e3 (Ev.now _)))))
theorem iFlip_ev {m : Nat} {es : Ed} (hv : Valid m es) {b i : Nat} (hb : b < 2 ^ es.length) (hi : i < es.length) : Ev (fun k => impl_WayFlip.f k (m : Int) (toS es) (b : Int) (i : Int)) (((b ^^^ 2 ^ i : Nat) : Int), true) := by
  have h10 := hv.len
  have hts : (toS es).length = es.length := toS_length es
  have hp := pow_le h10
  have p2 : 2 ^ i < 2 ^ 62 := small (n := 10) (by omega) (Nat.pow_lt_pow_right (by omega) (by omega))
  have hx := xor_nat (a := b) (b := 2 ^ i) (by omega) p2
  unfold impl_WayFlip.f
  refine Ev.bind (impl_wayIn (by omega)) ?_
  rw [wIn_iff hv, decide_eq_true hb]
  simp only [if_true, if_neg (show ¬ ((i : Int) < 0) by omega), if_neg (show ¬ ((i : Int) ≥ ((toS es).length : Int)) by omega), if_pos (Int.natCast_nonneg i), shl_nat (show i ≤ 61 by omega), hx]
  exact Ev.now _
theorem flip_loop {m : Nat} {es : Ed} (hv : Valid m es) {b i : Nat} (hi : i < es.length) : ∀ d v : Nat, v + d = m →
    Ev (fun k => laws_FnFlip.l0 k (b : Int) (i : Int) (b : Int) true (toI (outsOf m (dirs es b))) true (toI (outsOf m (dirs es (b ^^^ 2 ^ i)))) true (v : Int) (m : Int) (toS es)) true := by
  have h5 := hv.le
  have h10 := hv.len
  have hts : (toS es).length = es.length := toS_length es
  intro d
  induction d with
  | zero =>
    intro v hvm
    refine Ev.step (f := fun _ => some true) (fun k => ?_) (Ev.now _)
    simp only [laws_FnFlip.l0, if_true]
    rw [if_neg (by omega), beq_self_eq_true]
  | succ d ih =>
    intro v hvm
    have hk := ih (v + 1) (by omega)
    have hof := outs_flip hv (b := b) hi v
    have hw1 : wrap64 ((v : Int) + 1) = ((v + 1 : Nat) : Int) := by rw [wrap_id (by omega) (by omega)]; simp
    have g0 : (v : Int) < (m : Int) := by clear hw1; omega
    have g1 : (i : Int) < ((toS es).length : Int) := by clear hw1; omega
    have n1 : (toI (outsOf m (dirs es b))).length = m := by rw [toI_length, outsOf_length]
    have n2 : (toI (outsOf m (dirs es (b ^^^ 2 ^ i)))).length = m := by rw [toI_length, outsOf_length]
    have g3 : ¬ ((v : Int) ≥ ((toI (outsOf m (dirs es b))).length : Int)) := by clear hw1; omega
    have g4 : ¬ ((v : Int) ≥ ((toI (outsOf m (dirs es (b ^^^ 2 ^ i)))).length : Int)) := by clear hw1; omega
    have g5 : (v : Int) < ((toI (outsOf m (dirs es b))).length : Int) := by clear hw1; omega
    have g6 : (v : Int) < ((toI (outsOf m (dirs es (b ^^^ 2 ^ i)))).length : Int) := by clear hw1; omega
    refine Ev.step (fun k => ?_) hk
    simp only [laws_FnFlip.l0]
    rw [if_pos g0, if_pos (Int.natCast_nonneg i), if_pos g1, rd_toS]
    simp only [if_neg g3, if_neg g4, if_pos (Int.natCast_nonneg v), if_pos g5, if_pos g6, rd_toI, hw1]
    clear hw1 g0 g1 g3 g4 g5 g6 n1 n2 hk ih
    generalize (outsOf m (dirs es b)).getD v 0 = x at *
    generalize (outsOf m (dirs es (b ^^^ 2 ^ i))).getD v 0 = y at *
    generalize es.getD i (0, 0) = e at *
    unfold touches at hof
    by_cases h1 : e.1 = v
    · have hne : ¬ (x = y) := by rw [hof]; simp [h1]
      have hb : ((x : Int) != (y : Int)) = true := by simp; omega
      rw [if_pos (by omega), hb]; simp
    · rw [if_neg (by omega)]
      by_cases h2 : e.2 = v
      · have hne : ¬ (x = y) := by rw [hof]; simp [h2]
        have hb : ((x : Int) != (y : Int)) = true := by simp; omega
        have hc : (((e.2 : Nat) : Int) == (v : Int)) = true := by simp; omega
        rw [hb, hc]; simp
      · have hne : x = y := by rw [hof]; simp [h1, h2]
        have hc : (((e.2 : Nat) : Int) == (v : Int)) = false := by simp; omega
        rw [hne, hc]; simp
theorem FnFlip : laws_FnFlip.Pure := by
  intro l0 hm hb hw
  apply Ev.rounds
  simp only [laws_FnFlip.f]
  by_cases hbig : (l0.length : Int) > 1048576
  · simp only [if_pos hbig]; exact Ev.now true
  simp only [if_neg hbig]
  obtain ⟨m, xs, o, i, h1, h5, hl, hd⟩ := flipDraw_ev (by omega) hw
  refine Ev.bind hd ?_
  obtain ⟨r, hs, hi⟩ := same_WayFlip (m : Int) xs o i hl
  by_cases hc : wIn (m : Int) xs o = true ∧ 0 ≤ i ∧ i < (xs.length : Int)
  · obtain ⟨hin, hi0, hi1⟩ := hc
    obtain ⟨m', es, b, hmm, rfl, hv, rfl, hb'⟩ := wIn_valid hin
    obtain rfl : m = m' := by omega
    obtain ⟨j, rfl⟩ := Int.eq_ofNat_of_zero_le hi0
    have hts : (toS es).length = es.length := toS_length es
    have hj : j < es.length := by omega
    have f1 := iFlip_ev hv hb' hj
    have hpj : 2 ^ j < 2 ^ es.length := Nat.pow_lt_pow_right (by omega) hj
    have hlt : b ^^^ 2 ^ j < 2 ^ es.length := Nat.xor_lt_two_pow hb' hpj
    have f2 := iFlip_ev hv hlt hj
    rw [show (b ^^^ 2 ^ j) ^^^ 2 ^ j = b by rw [Nat.xor_assoc, Nat.xor_self, Nat.xor_zero]] at f2
    have hr : r = (((b ^^^ 2 ^ j : Nat) : Int), true) := ev_uniq hi f1
    rw [hr] at hs
    refine Ev.bind f1 (Ev.bind hs ?_)
    simp only [bne_self_eq_false, Bool.false_eq_true, if_false, if_true, Bool.not_true]
    refine Ev.step (fun k => by simp only [laws_FnFlip.j0]; rfl) ?_
    simp only [Bool.false_eq_true, if_false]
    refine Ev.bind f2 (Ev.bind (impl_WayOut_ev hv hb') (Ev.bind (impl_WayOut_ev hv hlt) ?_))
    exact flip_loop hv hj m 0 (by omega)
  · have f1 : Ev (fun k => impl_WayFlip.f k (m : Int) xs o i) (0, false) := by
      unfold impl_WayFlip.f
      refine Ev.bind (impl_wayIn hl) ?_
      cases hin : wIn (m : Int) xs o with
      | false => simp only [Bool.false_eq_true, if_false]; exact Ev.now _
      | true =>
        simp only [if_true]
        by_cases h0 : i < 0
        · simp only [if_pos h0]; exact Ev.now _
        · have : i ≥ (xs.length : Int) := by
            apply Classical.byContradiction; intro h; exact hc ⟨hin, by omega, by omega⟩
          simp only [if_neg h0, if_pos this]; exact Ev.now _
    have hr : r = (0, false) := ev_uniq hi f1
    rw [hr] at hs
    refine Ev.bind f1 (Ev.bind hs ?_)
    simp only [bne_self_eq_false, Bool.false_eq_true, if_false, if_true, Bool.not_false]
    refine Ev.step (fun k => by simp only [laws_FnFlip.j0]; rfl) ?_
    simp only [if_true, beq_self_eq_true]
    exact Ev.now _
end Go.Proofs.Ytomaibajmlfhhaa.Pure
