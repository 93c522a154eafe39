/-
  PlainPush of the program and of the reference tell the same, for every graph and numbers.
-/
import Derived.Test.YtljaalhocjobeaaLkPushed
import Derived.Test.YtljaalhocjobeaaLkSinks
import Derived.Test.YtljaalhocjobeaaLkRefSinks
import Derived.Test.YtljaalhocjobeaaLkTurn
import Derived.Test.YtljaalhocjobeaaPx54
import Derived.Test.YtljaalhocjobeaaPx51
import Derived.Test.YtljaalhocjobeaaPx49
import Derived.Test.YtljaalhocjobeaaPx50
namespace Go.Proofs.Ytljaalhocjobeaa.Lk
open Go Go.RowKit Go.Proofs.YtljaalhocjobeaaW.PrintWords Go.Proofs.YtljaalhocjobeaaW.PrintLast Go.Proofs.YtljaalhocjobeaaW.PrintMore Go.Proofs.Ytljaalhocjobeaa.P Go.Proofs.Ytljaalhocjobeaa.Gw
set_option linter.unusedVariables false
set_option linter.unusedSimpArgs false
theorem lenPP {m : Nat} {es : Ed} (hv : Valid m es) : (toS es).length < 2 ^ 62 := by rw [toS_length]; have := hv.len; omega
theorem refPush_l {m : Nat} {es : Ed} (hv : Valid m es) (v : Nat) (n : Int) : ∀ d i : Nat, i + d = es.length → ∀ o : Nat, o < 2 ^ es.length →
    Ev (fun k => spec_l2Push.l0 k (o : Int) (v : Int) (i : Int) n (toS es)) ((pushE v (es.drop i) i o : Nat) : Int) := by
  have hp := pow_le hv.len
  have h10 := hv.len
  intro d
  induction d with
  | zero =>
    intro i hi o ho
    rw [List.drop_eq_nil_of_le (by omega)]
    refine Ev.step (f := fun _ => some (o : Int)) (fun k => ?_) (Ev.now _)
    simp only [spec_l2Push.l0]; rw [if_neg (by rw [toS_length]; omega)]
  | succ d ih =>
    intro i hi o ho
    have hil : i < es.length := by omega
    have hdrop : es.drop i = es.getD i (0, 0) :: es.drop (i + 1) := by
      rw [List.drop_eq_getElem_cons hil, List.getD_eq_getElem?_getD, List.getElem?_eq_getElem hil]; rfl
    rw [hdrop, pushE]
    have hw : wrap64 ((i : Int) + 1) = ((i + 1 : Nat) : Int) := by rw [wrap_id (by omega) (by omega)]; simp
    have hpi : 2 ^ i < 2 ^ es.length := Nat.pow_lt_pow_right (by omega) hil
    have hx := xor_nat (a := o) (b := 2 ^ i) (by omega) (by omega)
    have hlt : (bif (es.getD i (0, 0)).1 == v || (es.getD i (0, 0)).2 == v then o ^^^ 2 ^ i else o) < 2 ^ es.length := by
      cases (es.getD i (0, 0)).1 == v || (es.getD i (0, 0)).2 == v
      · exact ho
      · exact Nat.xor_lt_two_pow ho hpi
    refine Ev.step (fun k => ?_) (ih (i + 1) (by omega) _ hlt)
    simp only [spec_l2Push.l0]
    have hrd := rd_toS es i
    rw [if_pos (by rw [toS_length]; omega), if_pos (by omega), hrd, hw, shl_nat (by omega), hx]
    generalize es.getD i (0, 0) = x
    by_cases h1 : x.1 = v
    · rw [if_pos (by simp only; omega), show (x.1 == v) = true by simpa using h1]; simp
    · rw [if_neg (by simp only; omega), show (x.1 == v) = false by simpa using h1]
      by_cases h2 : x.2 = v
      · rw [if_pos (by simp only; omega), show (x.2 == v) = true by simpa using h2]; simp
      · rw [if_neg (by simp only; omega), show (x.2 == v) = false by simpa using h2]; simp
theorem refPush_ev {m : Nat} {es : Ed} (hv : Valid m es) (v : Nat) {b : Nat} (hb : b < 2 ^ es.length) (n : Int) :
    Ev (fun k => spec_l2Push.f k n (toS es) (b : Int) (v : Int)) ((pushE v es 0 b : Nat) : Int) := by
  have h := refPush_l hv v n es.length 0 (by omega) b hb
  unfold spec_l2Push.f; exact h
theorem sinksF_lt (m : Nat) (ds : Ed) : sinksF (rowsOf m ds) < 2 ^ m := by
  apply lt_two_pow_of_bits
  intro b hb
  rw [sinksF_bit] at hb
  have := (List.getElem?_eq_some_iff.mp hb).1
  rw [rowsOf_length] at this; exact this
/-- the sources -/
def src (m : Nat) (ds : Ed) : Nat := sinksF (rowsOf m (rev ds))
theorem refSources_no {n o : Int} {ys : List S53} (hl : ys.length < 2 ^ 62) (hw : wIn n ys o = false) : Ev (fun k => spec_WaySources.f k n ys o) (0, false) := by
  unfold spec_WaySources.f; exact Ev.bind (spec_wayIn hl) (by simpa [hw] using Ev.now _)
theorem refSources_ev {m : Nat} {es : Ed} (hv : Valid m es) {b : Nat} (hb : b < 2 ^ es.length) : Ev (fun k => spec_WaySources.f k (m : Int) (toS es) (b : Int)) (((src m (dirs es b) : Nat) : Int), true) := by
  unfold spec_WaySources.f
  refine Ev.bind (spec_wayIn (lenPP hv)) ?_
  rw [wIn_iff hv, decide_eq_true hb]
  simp only [if_true, all_eq hv, sub_eq hv hb, Option.bind_some]
  have h := refSinks_ev hv (b := tn es.length b) tn_lt
  rw [dirs_tn es b hb] at h
  exact Ev.bind h (Ev.now _)
/-- what PlainPush tells -/
def pushR (m : Nat) (es : Ed) (b v : Nat) : Int × Bool := bif (src m (dirs es b)).testBit v then (((pushE v es 0 b : Nat) : Int), true) else (0, false)
theorem impl_PlainPush_no {n o v : Int} {ys : List S53} (hl : ys.length < 2 ^ 62) (hw : wIn n ys o = false ∨ ¬ (0 ≤ v ∧ v < n)) : Ev (fun k => impl_PlainPush.f k n ys o v) (0, false) := by
  unfold impl_PlainPush.f
  refine Ev.bind (impl_wayIn hl) ?_
  cases hin : wIn n ys o with
  | false => simp only [Bool.false_eq_true, if_false]; exact Ev.now _
  | true =>
    have hv : ¬ (0 ≤ v ∧ v < n) := hw.resolve_left (by rw [hin]; simp)
    simp only [if_true]
    by_cases h0 : v < 0
    · simp only [if_pos h0]; exact Ev.now _
    · simp only [if_neg h0, if_pos (show v ≥ n by omega)]; exact Ev.now _
theorem spec_PlainPush_no {n o v : Int} {ys : List S53} (hl : ys.length < 2 ^ 62) (hw : wIn n ys o = false ∨ ¬ (0 ≤ v ∧ v < n)) : Ev (fun k => spec_PlainPush.f k n ys o v) (0, false) := by
  unfold spec_PlainPush.f
  cases hin : wIn n ys o with
  | false => exact Ev.bind (refSources_no hl hin) (by simpa using Ev.now _)
  | true =>
    have hv : ¬ (0 ≤ v ∧ v < n) := hw.resolve_left (by rw [hin]; simp)
    obtain ⟨m, es, b, rfl, rfl, hval, rfl, hb⟩ := wIn_valid hin
    refine Ev.bind (refSources_ev hval hb) ?_
    have h5 := hval.le; have h1 := hval.pos
    have : (decide (0 ≤ v) && decide (v ≤ (m : Int) - 1)) = false := by
      rw [Bool.and_eq_false_iff, decide_eq_false_iff_not, decide_eq_false_iff_not]; omega
    simp only [if_true, l6In_eq, Option.bind_some, wrap_id (x := (m : Int) - 1) (by omega) (by omega), this, Bool.false_eq_true, if_false]; exact Ev.now _
theorem impl_PlainPush_ev {m : Nat} {es : Ed} (hv : Valid m es) {b : Nat} (hb : b < 2 ^ es.length) {v : Nat} (hvm : v < m) :
    Ev (fun k => impl_PlainPush.f k (m : Int) (toS es) (b : Int) (v : Int)) (pushR m es b v) := by
  have h5 := hv.le
  have hs := pow5 h5 (sinksF_lt m (rev (dirs es b)))
  unfold impl_PlainPush.f
  refine Ev.bind (impl_wayIn (lenPP hv)) ?_
  rw [wIn_iff hv, decide_eq_true hb]
  simp only [if_true, if_neg (show ¬ (v : Int) < 0 by omega), if_neg (show ¬ (v : Int) ≥ (m : Int) by omega), turned_eq hv hb, Option.bind_some]
  have h := sinksOf_ev hv (b := tn es.length b) tn_lt
  rw [dirs_tn es b hb] at h
  refine Ev.bind h ?_
  simp only [if_pos (show 0 ≤ (v : Int) by omega)]
  unfold pushR src
  cases ht : (sinksF (rowsOf m (rev (dirs es b)))).testBit v with
  | false => simp only [if_pos ((bit_zero (show sinksF (rowsOf m (rev (dirs es b))) < 2 ^ 62 by omega) (show v ≤ 64 by omega)).mpr ht), cond_false]; exact Ev.now _
  | true =>
    have : ¬ (Go.bits .and .i64 (shr .i64 ((sinksF (rowsOf m (rev (dirs es b))) : Nat) : Int) (v : Int)) 1 = 0) := by rw [bit_zero (by omega) (by omega), ht]; simp
    simp only [if_neg this, cond_true]
    exact Ev.bind (pushed_ev hv v hb (m : Int)) (Ev.now _)
theorem spec_PlainPush_ev {m : Nat} {es : Ed} (hv : Valid m es) {b : Nat} (hb : b < 2 ^ es.length) {v : Nat} (hvm : v < m) :
    Ev (fun k => spec_PlainPush.f k (m : Int) (toS es) (b : Int) (v : Int)) (pushR m es b v) := by
  have h5 := hv.le; have h1 := hv.pos
  have hs := pow5 h5 (sinksF_lt m (rev (dirs es b)))
  unfold spec_PlainPush.f
  refine Ev.bind (refSources_ev hv hb) ?_
  have : (decide (0 ≤ (v : Int)) && decide ((v : Int) ≤ (m : Int) - 1)) = true := by
    rw [decide_eq_true (show 0 ≤ (v : Int) by omega), decide_eq_true (show (v : Int) ≤ (m : Int) - 1 by omega)]; rfl
  simp only [if_true, l6In_eq, Option.bind_some, wrap_id (x := (m : Int) - 1) (by omega) (by omega), this, if_pos (show 0 ≤ (v : Int) by omega)]
  unfold pushR src
  cases ht : (sinksF (rowsOf m (rev (dirs es b)))).testBit v with
  | false => simp only [if_pos ((bit_zero (show sinksF (rowsOf m (rev (dirs es b))) < 2 ^ 62 by omega) (show v ≤ 64 by omega)).mpr ht), cond_false]; exact Ev.now _
  | true =>
    have : ¬ (Go.bits .and .i64 (shr .i64 ((sinksF (rowsOf m (rev (dirs es b))) : Nat) : Int) (v : Int)) 1 = 0) := by rw [bit_zero (by omega) (by omega), ht]; simp
    simp only [if_neg this, cond_true]
    exact Ev.bind (refPush_ev hv v hb (m : Int)) (Ev.now _)
theorem same_PlainPush (n : Int) (ys : List S53) (o v : Int) (hl : ys.length < 2 ^ 62) : ∃ r, Ev (fun k => spec_PlainPush.f k n ys o v) r ∧ Ev (fun k => impl_PlainPush.f k n ys o v) r := by
  cases hw : wIn n ys o with
  | false => exact ⟨_, spec_PlainPush_no hl (.inl hw), impl_PlainPush_no hl (.inl hw)⟩
  | true =>
    obtain ⟨m, es, b, rfl, rfl, hv, rfl, hb⟩ := wIn_valid hw
    by_cases h : 0 ≤ v ∧ v < (m : Int)
    · obtain ⟨u, rfl⟩ := Int.eq_ofNat_of_zero_le h.1
      exact ⟨_, spec_PlainPush_ev hv hb (by omega), impl_PlainPush_ev hv hb (by omega)⟩
    · exact ⟨_, spec_PlainPush_no hl (.inr h), impl_PlainPush_no hl (.inr h)⟩
end Go.Proofs.Ytljaalhocjobeaa.Lk
