/-
  FnTrees answers true: there is a tree on each part; complete graphs have n^(n-2).
-/
import Derived.Test.YtjklkphhfkdkpaaMFnTrees
import Derived.Test.YtjklkphhfkdkpaaKTree
import Derived.Test.YtjklkphhfkdkpaaPx61
import Derived.Test.YtjklkphhfkdkpaaPx56
namespace Go.Proofs.Ytjklkphhfkdkpaa.Pure
open Go Go.RowKit Go.Proofs.YtjklkphhfkdkpaaW.PrintWords Go.Proofs.YtjklkphhfkdkpaaW.PrintLast Go.Proofs.YtjklkphhfkdkpaaW.PrintMore Go.Proofs.Ytjklkphhfkdkpaa.P Go.Proofs.Ytjklkphhfkdkpaa.Gw Go.Proofs.Ytjklkphhfkdkpaa.Lk
set_option linter.unusedVariables false
set_option linter.unusedSimpArgs false
theorem treeQ_eq (m : Nat) (es : Ed) (s : Nat) : treeQ m es (ufF m es) s = treeF m es s := by
  have hp : popT s = popc s := rfl
  unfold treeQ treeF forestF
  rw [hp, Bool.eq_iff_iff]
  cases h : Nat.beq (ufF m es + popc s) m with
  | true =>
    rw [Nat.beq_eq] at h
    simp only [cond_true, Nat.beq_eq, Bool.and_eq_true, decide_eq_true_eq]
    constructor
    · intro h1; exact ⟨by omega, h1⟩
    · intro h1; exact h1.2
  | false =>
    have h : ¬ (ufF m es + popc s = m) := by intro e; rw [e] at h; simp at h
    simp only [cond_false, Bool.and_eq_true, decide_eq_true_eq]
    constructor
    · intro h1; exact absurd h1 (by simp)
    · rintro ⟨h1, h2⟩; omega
theorem tree_chk {m : Nat} {es : Ed} (hv : Valid m es) : 1 ≤ cTrees m es ∧ (2 * es.length = m * (m - 1) → cTrees m es = m ^ (m - 2)) ∧ 2 * es.length ≤ m * (m - 1) := by
  have hle : 2 * es.length ≤ m * (m - 1) := by
    rw [← pairs_two m (by have := hv.le; omega)]
    have := hv.sub.length_le; omega
  have h : chkTree m es = true := by
    have h1 := hv.pos; have h5 := hv.le
    rcases (show m = 1 ∨ m = 2 ∨ m = 3 ∨ m = 4 ∨ m = 5 by omega) with e | e | e | e | e <;> subst e
    · exact allSub_of _ _ tree1 _ hv.sub
    · exact allSub_of _ _ tree2 _ hv.sub
    · exact allSub_of _ _ tree3 _ hv.sub
    · exact allSub_of _ _ tree4 _ hv.sub
    · exact allSub_of _ _ tree5 _ hv.sub
  unfold chkTree at h
  rw [force_eq, force_eq] at h
  have hc : cntP (treeQ m es (ufF m es)) (2 ^ es.length) = cTrees m es := cntP_congr _ fun o _ => treeQ_eq m es o
  rw [hc, Bool.and_eq_true, Nat.ble_eq] at h
  refine ⟨h.1, fun he => ?_, hle⟩
  have h2 := h.2
  have hb : Nat.beq (2 * es.length) (m * (m - 1)) = true := by rw [Nat.beq_eq]; exact he
  rw [hb, cond_true, Nat.beq_eq] at h2
  exact h2
/-- the product from place j on -/
theorem trees_loop {m : Nat} {es : Ed} (hv : Valid m es) : ∀ d i : Nat, 2 ≤ i → (i + d = m ∨ (d = 0 ∧ i = 2 ∧ m ≤ 2)) →
    Ev (fun k => laws_FnTrees.l0 k ((cTrees m es : Nat) : Int) ((m ^ (i - 2) : Nat) : Int) (i : Int) (m : Int) (toS es)) true := by
  have h5 := hv.le
  have h1 := hv.pos
  have h10 := hv.len
  have hts : (toS es).length = es.length := toS_length es
  obtain ⟨c1, c2, c3⟩ := tree_chk hv
  intro d
  induction d with
  | zero =>
    intro i h2 hi
    have e : m ^ (i - 2) = m ^ (m - 2) := by
      rcases hi with h | ⟨_, h, h'⟩
      · rw [show i = m by omega]
      · rw [show i - 2 = m - 2 by omega]
    rw [e]
    have hw1 : wrap64 ((m : Int) - 1) = ((m - 1 : Nat) : Int) := by rw [wrap_id (by omega) (by omega)]; omega
    have hmm : m * (m - 1) ≤ 20 := by
      have := (show ∀ m, m < 6 → m * (m - 1) ≤ 20 by decide) m (by clear hw1; omega)
      exact this
    have hw2 : wrap64 ((m : Int) * ((m - 1 : Nat) : Int)) = ((m * (m - 1) : Nat) : Int) := by
      clear hw1
      rw [show (m : Int) * ((m - 1 : Nat) : Int) = ((m * (m - 1) : Nat) : Int) by rw [Int.natCast_mul]]
      exact wrap_id (by omega) (by omega)
    have hw3 : wrap64 (2 * (es.length : Int)) = ((2 * es.length : Nat) : Int) := by clear hw1 hw2; rw [wrap_id (by omega) (by omega)]; omega
    have g1 : ¬ ((i : Int) < (m : Int)) := by clear hw1 hw2 hw3; omega
    have g2 : ((cTrees m es : Nat) : Int) ≥ 1 := by clear hw1 hw2 hw3; omega
    refine Ev.step (f := fun _ => some true) (fun k => ?_) (Ev.now _)
    simp only [laws_FnTrees.l0]
    rw [if_neg g1, if_pos g2, hts, hw3, hw1, hw2]
    clear hw1 hw2 hw3
    by_cases hlt : 2 * es.length < m * (m - 1)
    · rw [if_pos (Int.ofNat_lt.mpr hlt)]
    · rw [if_neg (fun h => hlt (Int.ofNat_lt.mp h)), c2 (by omega), beq_self_eq_true]
  | succ d ih =>
    intro i h2 hi
    have him : i + (d + 1) = m := by omega
    have hk := ih (i + 1) (by omega) (.inl (by omega))
    have hpow : m ^ (i - 2) * m = m ^ (i + 1 - 2) := by rw [show i + 1 - 2 = (i - 2) + 1 by omega, Nat.pow_succ]
    have hb : m ^ (i + 1 - 2) ≤ 100000 := by
      have q1 : m ^ (i + 1 - 2) ≤ 5 ^ (i + 1 - 2) := Nat.pow_le_pow_left h5 _
      have q2 : 5 ^ (i + 1 - 2) ≤ 5 ^ 5 := Nat.pow_le_pow_right (by omega) (by omega)
      omega
    have hw1 : wrap64 ((i : Int) + 1) = ((i + 1 : Nat) : Int) := by clear hb hpow; rw [wrap_id (by omega) (by omega)]; simp
    have hw2 : wrap64 (((m ^ (i - 2) : Nat) : Int) * (m : Int)) = ((m ^ (i + 1 - 2) : Nat) : Int) := by
      clear hw1
      rw [show ((m ^ (i - 2) : Nat) : Int) * (m : Int) = ((m ^ (i + 1 - 2) : Nat) : Int) by rw [← hpow, Int.natCast_mul]]
      generalize m ^ (i + 1 - 2) = y at hb
      exact wrap_id (by omega) (by omega)
    have g1 : (i : Int) < (m : Int) := by clear hw1 hw2 hb hpow; omega
    refine Ev.step (fun k => ?_) hk
    simp only [laws_FnTrees.l0]
    rw [if_pos g1, hw1, hw2]
theorem FnTrees : laws_FnTrees.Pure := by
  intro l0 hm hb hw
  apply Ev.rounds
  simp only [laws_FnTrees.f]
  by_cases hbig : (l0.length : Int) > 1048576
  · simp only [if_pos hbig]; exact Ev.now true
  simp only [if_neg hbig]
  obtain ⟨m, xs, h1, h5, hl, he⟩ := some_ev (by omega) hw
  have hd : Ev (fun k => spec_DrawScoreTrees.f k l0) ((m : Int), xs) := by unfold spec_DrawScoreTrees.f; exact Ev.bind he (Ev.now _)
  refine Ev.bind hd ?_
  cases hg : gOk (m : Int) xs with
  | false =>
    refine Ev.bind (impl_ScoreTrees_no hl hg) (Ev.bind (spec_ScoreTrees_no hl hg) ?_)
    simp only [bne_self_eq_false, Bool.false_eq_true, if_false, if_true, Bool.not_false]
    refine Ev.step (fun k => by simp only [laws_FnTrees.j0]; rfl) ?_
    simp only [if_true, beq_self_eq_true]; exact Ev.now _
  | true =>
    obtain ⟨m', es, hmm, rfl, hv⟩ := gOk_valid hg
    obtain rfl : m = m' := by omega
    refine Ev.bind (impl_ScoreTrees_ev hv) (Ev.bind (spec_ScoreTrees_ev hv) ?_)
    simp only [bne_self_eq_false, Bool.false_eq_true, if_false, if_true, Bool.not_true]
    refine Ev.step (fun k => by simp only [laws_FnTrees.j0]; rfl) ?_
    simp only [Bool.false_eq_true, if_false]
    by_cases h2 : 2 ≤ m
    · exact trees_loop hv (m - 2) 2 (by omega) (.inl (by omega))
    · exact trees_loop hv 0 2 (by omega) (.inr ⟨rfl, rfl, by omega⟩)
end Go.Proofs.Ytjklkphhfkdkpaa.Pure
