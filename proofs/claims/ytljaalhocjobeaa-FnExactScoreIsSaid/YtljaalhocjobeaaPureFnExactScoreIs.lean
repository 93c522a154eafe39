/-
  FnExactScoreIs answers true: the program's ScoreIs and the reference's tell the same, for all arguments.
-/
import Derived.Test.YtljaalhocjobeaaMFnExactScoreIs
import Derived.Test.YtljaalhocjobeaaPx17
import Derived.Test.YtljaalhocjobeaaPx10
namespace Go.Proofs.Ytljaalhocjobeaa.Pure
open Go Go.RowKit Go.Proofs.YtljaalhocjobeaaW.PrintWords Go.Proofs.Ytljaalhocjobeaa.P Go.Proofs.Ytljaalhocjobeaa.Gw Go.Proofs.Ytljaalhocjobeaa.Lk
set_option linter.unusedVariables false
set_option linter.unusedSimpArgs false
theorem toInt_ev {l : List Int} (hl : l.length ≤ 1048576) : Ev (fun k => laws_toIntS.f k l) l := by
  have key : ∀ d i : Nat, i + d = l.length → Ev (fun k => laws_toIntS.l0 k l (l.take i ++ List.replicate (l.length - i) 0) (i : Int)) l := by
    intro d
    induction d with
    | zero =>
      intro i hi
      refine Ev.step (f := fun _ => some l) (fun k => ?_) (Ev.now _)
      simp only [laws_toIntS.l0]
      rw [if_neg (by omega), List.take_of_length_le (by omega), show l.length - i = 0 by omega]; simp
    | succ d ih =>
      intro i hi
      have hk := ih (i + 1) (by omega)
      have hil : i < l.length := by omega
      have hti : (l.take i).length = i := by rw [List.length_take]; omega
      have hrd : rd l (i : Int) = l.getD i 0 := by unfold rd; rw [Int.toNat_natCast]
      have hset : (l.take i ++ List.replicate (l.length - i) 0).set i (l.getD i 0) = l.take (i + 1) ++ List.replicate (l.length - (i + 1)) 0 := by
        rw [show l.length - i = (l.length - (i + 1)) + 1 by omega, List.replicate_succ, List.set_append_right _ _ (by omega), hti, Nat.sub_self, List.set_cons_zero, List.take_succ_eq_append_getElem hil, List.append_assoc, List.singleton_append, List.getD_eq_getElem?_getD, List.getElem?_eq_getElem hil]
        rfl
      have hlen : (l.take i ++ List.replicate (l.length - i) 0).length = l.length := by rw [List.length_append, hti, List.length_replicate]; omega
      have hw1 : wrap64 ((i : Int) + 1) = ((i + 1 : Nat) : Int) := by rw [wrap_id (by omega) (by omega)]; simp
      have g1 : (i : Int) < (l.length : Int) := Int.ofNat_lt.mpr hil
      have g2 : (i : Int) < ((l.take i ++ List.replicate (l.length - i) 0).length : Int) := by rw [hlen]; exact g1
      refine Ev.step (fun k => ?_) hk
      simp only [laws_toIntS.l0]
      rw [if_pos g1, if_pos (Int.natCast_nonneg i), if_pos g2, hrd, Int.toNat_natCast, hset, hw1]
  have h := key l.length 0 (by omega)
  unfold laws_toIntS.f
  simp only [if_pos (Int.natCast_nonneg l.length), Int.toNat_natCast, if_pos (show l.length ≤ 35184372088832 by omega)]
  rw [List.take_zero, List.nil_append, Nat.sub_zero] at h
  exact h
theorem FnExactScoreIs (n : Int) (xs : List S63) (row1 : List Int) (hm : xs.length ≤ 9223372036854775807) (hr1 : row1.length ≤ 9223372036854775807) (hw1 : ∀ x ∈ row1, (Lit.int .i64 x).wf = true) : ∃ k, laws_FnExactScoreIs.f k n xs row1 = some true := by
  apply Ev.rounds
  simp only [laws_FnExactScoreIs.f]
  by_cases hbig : (row1.length : Int) > 1048576
  · simp only [if_pos hbig]; exact Ev.now true
  simp only [if_neg hbig]
  rcases big_or xs hm with h | h
  · simp only [h, Option.bind_some]; exact Ev.now true
  simp only [sz_small h, Option.bind_some, if_neg (sz_neg h)]
  have hl : (cv xs).length < 2 ^ 62 := by rw [cv_length]; omega
  obtain ⟨r, hs, hi⟩ := same_ScoreIs n (cv xs) row1 hl
  have ht := toInt_ev (l := row1) (by omega)
  refine Ev.bind (toGraph_ev h) (Ev.bind ht (Ev.bind hs (Ev.bind (toGraph_ev h) (Ev.bind ht (Ev.bind hi ?_)))))
  simp only [bne_self_eq_false, Bool.false_eq_true, if_false]
  refine Ev.bind (toGraph_ev h) (Ev.bind (eqGraph_ev hl) ?_)
  simp only [if_true]
  refine Ev.bind ht (Ev.bind (eqInt_ev (by omega)) ?_)
  simp only [if_true]; exact Ev.now _
end Go.Proofs.Ytljaalhocjobeaa.Pure
