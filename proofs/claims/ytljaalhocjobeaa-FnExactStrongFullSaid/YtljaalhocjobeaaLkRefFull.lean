/-
  The reference's l3Full: the same directions are full.
-/
import Derived.Test.YtljaalhocjobeaaLkRefBlock
import Derived.Test.YtljaalhocjobeaaPx39
namespace Go.Proofs.Ytljaalhocjobeaa.Lk
open Go Go.RowKit Go.Proofs.YtljaalhocjobeaaW.PrintWords Go.Proofs.YtljaalhocjobeaaW.PrintLast Go.Proofs.YtljaalhocjobeaaW.PrintMore Go.Proofs.Ytljaalhocjobeaa.P Go.Proofs.Ytljaalhocjobeaa.Gw
set_option linter.unusedVariables false
set_option linter.unusedSimpArgs false
theorem refFull_l0 {m : Nat} {es : Ed} (hv : Valid m es) {b : Nat} (hb : b < 2 ^ es.length) : ∀ d i : Nat, i + d = es.length →
    Ev (fun k => spec_l3Full.l0 k (b : Int) (i : Int) (m : Int) (toS es)) ((es.drop i).all fun e => (blk m (dirs es b) e.1).testBit e.2) := by
  have hR := dirs_inR hv.inR b
  have h10 := hv.len
  have h5 := hv.le
  intro d
  induction d with
  | zero =>
    intro i hi
    rw [List.drop_eq_nil_of_le (by omega)]
    refine Ev.step (f := fun _ => some true) (fun k => ?_) (Ev.now _)
    simp only [spec_l3Full.l0]; rw [if_neg (by rw [toS_length]; omega)]
  | succ d ih =>
    intro i hi
    have hk := ih (i + 1) (by omega)
    have hil : i < es.length := by omega
    have hdrop : es.drop i = es.getD i (0, 0) :: es.drop (i + 1) := by
      rw [List.drop_eq_getElem_cons hil, List.getD_eq_getElem?_getD, List.getElem?_eq_getElem hil]; rfl
    have he := hv.inR _ (getD_mem (ds := es) hil)
    have hrd := rd_toS es i
    have hw : wrap64 ((i : Int) + 1) = ((i + 1 : Nat) : Int) := by rw [wrap_id (by omega) (by omega)]; simp
    rw [hdrop, List.all_cons]
    generalize es.getD i (0, 0) = x at *
    have hc := pow5 h5 (blk_lt h5 hR he.1)
    have hlt : (i : Int) < ((toS es).length : Int) := by rw [toS_length]; omega
    refine Ev.step (fun k => rfl) ?_
    simp only [spec_l3Full.l0, if_pos hlt, if_pos (show 0 ≤ (i : Int) by omega), hrd]
    refine Ev.bind (refBlock_ev hv hb he.1) ?_
    simp only [if_pos (show 0 ≤ (x.2 : Int) by omega), hw]
    cases ht : (blk m (dirs es b) x.1).testBit x.2 with
    | false =>
      simp only [if_pos ((bit_zero (show blk m (dirs es b) x.1 < 2 ^ 62 by omega) (show x.2 ≤ 64 by omega)).mpr ht), Bool.false_and]; exact Ev.now _
    | true =>
      have : ¬ (Go.bits .and .i64 (shr .i64 ((blk m (dirs es b) x.1 : Nat) : Int) (x.2 : Int)) 1 = 0) := by rw [bit_zero (by omega) (by omega), ht]; simp
      simp only [if_neg this, Bool.true_and]; exact hk
theorem full_ref {m : Nat} {es : Ed} (hv : Valid m es) (b : Nat) : (es.all fun e => (blk m (dirs es b) e.1).testBit e.2) = fullF m (dirs es b) := by
  have hR := dirs_inR hv.inR b
  have h5 := hv.le
  rw [Bool.eq_iff_iff, fullF, List.all_eq_true, List.all_eq_true]
  constructor
  · intro h e he
    obtain ⟨i, hi⟩ := List.getElem?_of_mem he
    have hi2 := hi
    rw [dirs_get] at hi2
    obtain ⟨x, hx, hxe⟩ := Option.map_eq_some_iff.mp hi2
    have hx2 := h x (List.mem_of_getElem? hx)
    have hr := hv.inR x (List.mem_of_getElem? hx)
    rw [full_blk h5 hR he]
    cases hb : b.testBit i with
    | false => rw [hb] at hxe; simp only [cond_false] at hxe; subst hxe; exact hx2
    | true => rw [hb] at hxe; simp only [cond_true] at hxe; subst hxe; rw [blk_symm h5 hR hr.1 hr.2]; exact hx2
  · intro h x hx
    obtain ⟨i, hi⟩ := List.getElem?_of_mem hx
    have hg := dirs_get es b i
    rw [hi] at hg; simp only [Option.map_some] at hg
    have he := List.mem_of_getElem? hg
    have h2 := h _ he
    rw [full_blk h5 hR he] at h2
    have hr := hv.inR x hx
    cases hb : b.testBit i with
    | false => rw [hb] at h2; exact h2
    | true => rw [hb] at h2; simp only [cond_true] at h2; rw [blk_symm h5 hR hr.2 hr.1]; exact h2
theorem refFull_ev {m : Nat} {es : Ed} (hv : Valid m es) {b : Nat} (hb : b < 2 ^ es.length) :
    Ev (fun k => spec_l3Full.f k (m : Int) (toS es) (b : Int)) (fullF m (dirs es b)) := by
  have h := refFull_l0 hv hb es.length 0 (by omega)
  rw [List.drop_zero, full_ref hv b] at h
  unfold spec_l3Full.f; exact h
end Go.Proofs.Ytljaalhocjobeaa.Lk
