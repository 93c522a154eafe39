/-
  What the order of an acyclic direction is: each node once, after all from which an edge leads to it.
-/
import Derived.Test.YtjhedhpippppeaaSPlainOrder
namespace Go.Proofs.Ytjhedhpippppeaa.Lk
open Go Go.RowKit Go.Proofs.YtjhedhpippppeaaW.PrintWords Go.Proofs.YtjhedhpippppeaaW.PrintLast Go.Proofs.YtjhedhpippppeaaW.PrintMore Go.Proofs.Ytjhedhpippppeaa.P Go.Proofs.Ytjhedhpippppeaa.Gw
set_option linter.unusedVariables false
set_option linter.unusedSimpArgs false
def Runs (m : Nat) (rr : List Nat) : List Nat → Nat → Prop
  | [], _ => True
  | v :: t, done => v < m ∧ done.testBit v = false ∧ andn (rr.getD v 0) done = 0 ∧ Runs m rr t (done ||| 2 ^ v)
theorem sort_runs (m : Nat) (rr : List Nat) : ∀ k done, Runs m rr (sortF m rr k done) done
  | 0, _ => trivial
  | k + 1, done => by
      rw [sortF]
      cases h : pickF m rr done with
      | none => trivial
      | some v =>
        have h1 := List.find?_some h
        have h2 := List.mem_range.mp (List.mem_of_find?_eq_some h)
        simp only [Bool.and_eq_true, Bool.not_eq_true', beq_iff_eq] at h1
        exact ⟨h2, h1.1, h1.2, sort_runs m rr k _⟩
theorem Runs.lt {m : Nat} {rr : List Nat} : ∀ {L : List Nat} {done : Nat}, Runs m rr L done → ∀ j, j < L.length → L.getD j 0 < m ∧ done.testBit (L.getD j 0) = false
  | [], _, _, j, hj => by simp at hj
  | v :: t, done, h, 0, _ => ⟨h.1, h.2.1⟩
  | v :: t, done, h, j + 1, hj => by
      have := Runs.lt h.2.2.2 j (by simpa using hj)
      rw [List.getD_cons_succ]
      refine ⟨this.1, ?_⟩
      have h2 := this.2
      rw [Nat.testBit_or, Bool.or_eq_false_iff] at h2
      exact h2.1
theorem Runs.inj {m : Nat} {rr : List Nat} : ∀ {L : List Nat} {done : Nat}, Runs m rr L done → ∀ i j, i < j → j < L.length → L.getD i 0 ≠ L.getD j 0
  | [], _, _, _, j, _, hj => by simp at hj
  | v :: t, done, h, 0, 0, hij, _ => by omega
  | v :: t, done, h, 0, j + 1, hij, hj => by
      have h2 := (Runs.lt h.2.2.2 j (by simpa using hj)).2
      rw [List.getD_cons_succ, List.getD_cons_zero]
      rw [Nat.testBit_or, Bool.or_eq_false_iff, Nat.testBit_two_pow] at h2
      simpa using h2.2
  | v :: t, done, h, i + 1, 0, hij, _ => by omega
  | v :: t, done, h, i + 1, j + 1, hij, hj => by
      rw [List.getD_cons_succ, List.getD_cons_succ]
      exact Runs.inj h.2.2.2 i j (by omega) (by simpa using hj)
theorem Runs.pred {m : Nat} {rr : List Nat} : ∀ {L : List Nat} {done : Nat}, Runs m rr L done → ∀ j, j < L.length → ∀ x, (rr.getD (L.getD j 0) 0).testBit x = true → done.testBit x = true ∨ ∃ i, i < j ∧ L.getD i 0 = x
  | [], _, _, j, hj, _, _ => by simp at hj
  | v :: t, done, h, 0, _, x, hx => by
      left
      have h1 := congrArg (fun y => y.testBit x) h.2.2.1
      simp only [andn_bit, Nat.zero_testBit] at h1
      rw [List.getD_cons_zero] at hx
      rw [hx] at h1
      simpa using h1
  | v :: t, done, h, j + 1, hj, x, hx => by
      rw [List.getD_cons_succ] at hx
      rcases Runs.pred h.2.2.2 j (by simpa using hj) x hx with h1 | ⟨i, h1, h2⟩
      · rw [Nat.testBit_or, Bool.or_eq_true, Nat.testBit_two_pow] at h1
        rcases h1 with h1 | h1
        · exact Or.inl h1
        · exact Or.inr ⟨0, by omega, by rw [List.getD_cons_zero]; simpa using h1⟩
      · exact Or.inr ⟨i + 1, by omega, by rw [List.getD_cons_succ]; exact h2⟩
theorem Runs.all {m : Nat} (h5 : m ≤ 5) {rr : List Nat} : ∀ {L : List Nat} {done : Nat}, Runs m rr L done → done < 2 ^ m → pc5 done + L.length = m → ∀ x, x < m → done.testBit x = true ∨ ∃ j, j < L.length ∧ L.getD j 0 = x
  | [], done, _, hd, hp, x, hx => by
      left
      have := pc5_full m (by omega) done hd (by simpa using hp)
      rw [this, full_bit]; simpa using hx
  | v :: t, done, h, hd, hp, x, hx => by
      have hlt : done ||| 2 ^ v < 2 ^ m := Nat.or_lt_two_pow hd (Nat.pow_lt_pow_right (by omega) h.1)
      have hpc := pc5_add done (pow5 h5 hd) v (by have := h.1; omega) h.2.1
      rw [List.length_cons] at hp
      rcases Runs.all h5 h.2.2.2 hlt (by omega) x hx with h1 | ⟨j, h1, h2⟩
      · rw [Nat.testBit_or, Bool.or_eq_true, Nat.testBit_two_pow] at h1
        rcases h1 with h1 | h1
        · exact Or.inl h1
        · exact Or.inr ⟨0, by simp, by rw [List.getD_cons_zero]; simpa using h1⟩
      · exact Or.inr ⟨j + 1, by simpa using h1, by rw [List.getD_cons_succ]; exact h2⟩
end Go.Proofs.Ytjhedhpippppeaa.Lk
