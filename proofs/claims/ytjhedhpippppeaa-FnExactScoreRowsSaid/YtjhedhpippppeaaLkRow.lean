/-
  The reference's rows, packed into numbers.
-/
import Derived.Test.YtjhedhpippppeaaLkRefOut
import Derived.Test.YtjhedhpippppeaaPx92
namespace Go.Proofs.Ytjhedhpippppeaa.Lk
open Go Go.RowKit Go.Proofs.YtjhedhpippppeaaW.PrintWords Go.Proofs.YtjhedhpippppeaaW.PrintLast Go.Proofs.YtjhedhpippppeaaW.PrintMore Go.Proofs.Ytjhedhpippppeaa.P Go.Proofs.Ytjhedhpippppeaa.Gw
set_option linter.unusedVariables false
set_option linter.unusedSimpArgs false
def rowU (l : List Nat) : Nat → Nat
  | 0 => 0
  | i + 1 => 16 * rowU l i + l.getD i 0
theorem rowU_lt {l : List Nat} (h : ∀ u, l.getD u 0 < 16) : ∀ i, rowU l i < 16 ^ i
  | 0 => by simp [rowU]
  | i + 1 => by
      have ih := rowU_lt h i
      have hi := h i
      rw [rowU, Nat.pow_succ]; omega
theorem rowU_inj {l l' : List Nat} (h : ∀ u, l.getD u 0 < 16) (h' : ∀ u, l'.getD u 0 < 16) : ∀ i, rowU l i = rowU l' i → ∀ j, j < i → l.getD j 0 = l'.getD j 0
  | 0, _, j, hj => by omega
  | i + 1, he, j, hj => by
      have hi := h i
      have hi' := h' i
      rw [rowU, rowU] at he
      by_cases e : j = i
      · subst e; omega
      · exact rowU_inj h h' i (by omega) j (by omega)
theorem rowU_eq {l l' : List Nat} (h : ∀ u, l.getD u 0 < 16) (h' : ∀ u, l'.getD u 0 < 16) {m : Nat} (hl : l.length = m) (hl' : l'.length = m) : rowU l m = rowU l' m ↔ l = l' := by
  constructor
  · intro he
    apply List.ext_getElem?
    intro j
    by_cases hj : j < m
    · have := rowU_inj h h' m he j hj
      rw [List.getD_eq_getElem?_getD, List.getD_eq_getElem?_getD, List.getElem?_eq_getElem (by omega), List.getElem?_eq_getElem (by omega)] at this
      rw [List.getElem?_eq_getElem (by omega), List.getElem?_eq_getElem (by omega)]
      simpa using this
    · rw [List.getElem?_eq_none (by omega), List.getElem?_eq_none (by omega)]
  · rintro rfl; rfl
theorem outs_16 {m : Nat} {es : Ed} (hv : Valid m es) (b u : Nat) : (outsOf m (dirs es b)).getD u 0 < 16 := by
  have := outs_le (dirs_inR hv.inR b) u
  rw [dirs_length] at this
  have := hv.len; omega
theorem row_ev {m : Nat} {es : Ed} (hv : Valid m es) {b : Nat} (hb : b < 2 ^ es.length) : Ev (fun k => spec_l4Row.f k (m : Int) (toS es) (b : Int)) ((rowU (outsOf m (dirs es b)) m : Nat) : Int) := by
  have h5 := hv.le
  have h16 := outs_16 hv b
  have hlen := outsOf_length m (dirs es b)
  unfold spec_l4Row.f
  refine Ev.bind (refOut_ev hv hb) ?_
  clear hb
  generalize outsOf m (dirs es b) = l at *
  have key : ∀ d i : Nat, i + d = m → Ev (fun k => spec_l4Row.l0 k ((rowU l i : Nat) : Int) (toI l) (i : Int) (m : Int) (toS es)) ((rowU l m : Nat) : Int) := by
    intro d
    induction d with
    | zero =>
      intro i hi
      obtain rfl : i = m := by omega
      refine Ev.step (f := fun _ => some ((rowU l i : Nat) : Int)) (fun k => ?_) (Ev.now _)
      simp only [spec_l4Row.l0]
      rw [if_neg (Int.lt_irrefl _)]
    | succ d ih =>
      intro i hi
      have hk := ih (i + 1) (by omega)
      have h1 := rowU_lt h16 i
      have hp : 16 ^ i ≤ 16 ^ 5 := Nat.pow_le_pow_right (by omega) (by omega)
      have h2 := h16 i
      have hw1 : wrap64 ((i : Int) + 1) = ((i + 1 : Nat) : Int) := by rw [wrap_id (by omega) (by omega)]; simp
      have hw2 : wrap64 (16 * ((rowU l i : Nat) : Int)) = ((16 * rowU l i : Nat) : Int) := by clear hw1; rw [wrap_id (by omega) (by omega)]; simp
      have hw3 : wrap64 (((16 * rowU l i : Nat) : Int) + ((l.getD i 0 : Nat) : Int)) = ((rowU l (i + 1) : Nat) : Int) := by clear hw1 hw2; rw [rowU, wrap_id (by omega) (by omega)]; simp
      have g1 : (i : Int) < (m : Int) := by clear hw1 hw2 hw3; omega
      have g2 : (i : Int) < ((toI l).length : Int) := by clear hw1 hw2 hw3; rw [toI_length]; omega
      refine Ev.step (fun k => ?_) hk
      simp only [spec_l4Row.l0]
      rw [if_pos g1, if_pos (Int.natCast_nonneg i), if_pos g2, rd_toI, hw2, hw3, hw1]
  exact key m 0 (by omega)
end Go.Proofs.Ytjhedhpippppeaa.Lk
