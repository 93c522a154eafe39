/-
  The program's pushed: all edges at a node turned.
-/
import Derived.Test.YtljaalhocjobeaaLkDirs
import Derived.Test.YtljaalhocjobeaaPx53
namespace Go.Proofs.Ytljaalhocjobeaa.Lk
open Go Go.RowKit Go.Proofs.YtljaalhocjobeaaW.PrintWords Go.Proofs.YtljaalhocjobeaaW.PrintLast Go.Proofs.YtljaalhocjobeaaW.PrintMore Go.Proofs.Ytljaalhocjobeaa.P Go.Proofs.Ytljaalhocjobeaa.Gw
set_option linter.unusedVariables false
set_option linter.unusedSimpArgs false
def pushE (v : Nat) : Ed → Nat → Nat → Nat
  | [], _, o => o
  | e :: es, i, o => pushE v es (i + 1) (bif e.1 == v || e.2 == v then o ^^^ 2 ^ i else o)
theorem pushE_lt (v : Nat) {l : Nat} : ∀ (es : Ed) (i o : Nat), i + es.length ≤ l → o < 2 ^ l → pushE v es i o < 2 ^ l
  | [], i, o, _, h => h
  | e :: es, i, o, hi, h => by
      rw [pushE]
      apply pushE_lt v es (i + 1) _ (by simp at hi; omega)
      cases e.1 == v || e.2 == v
      · exact h
      · exact Nat.xor_lt_two_pow h (Nat.pow_lt_pow_right (by omega) (by simp at hi; omega))
theorem pushed_l {m : Nat} {es : Ed} (hv : Valid m es) (v : Nat) : ∀ d i : Nat, i + d = es.length → ∀ o : Nat, o < 2 ^ es.length →
    Ev (fun k => impl_pushed.l0 k (o : Int) (v : Int) (toS es) (es.length : Int) (i : Int)) ((pushE v (es.drop i) i o : Nat) : Int) := by
  have hp := pow_le hv.len
  have h10 := hv.len
  intro d
  induction d with
  | zero =>
    intro i hi o ho
    rw [List.drop_eq_nil_of_le (by omega)]
    refine Ev.step (f := fun _ => some (o : Int)) (fun k => ?_) (Ev.now _)
    simp only [impl_pushed.l0]; rw [if_neg (by omega)]
  | succ d ih =>
    intro i hi o ho
    have hil : i < es.length := by omega
    have hdrop : es.drop i = es.getD i (0, 0) :: es.drop (i + 1) := by
      rw [List.drop_eq_getElem_cons hil, List.getD_eq_getElem?_getD, List.getElem?_eq_getElem hil]; rfl
    rw [hdrop, pushE]
    have hw : wrap64 ((i : Int) + 1) = ((i + 1 : Nat) : Int) := by rw [wrap_id (by omega) (by omega)]; simp
    have hpi : 2 ^ i < 2 ^ es.length := Nat.pow_lt_pow_right (by omega) hil
    have hx := xor_nat (a := o) (b := 2 ^ i) (by omega) (by omega)
    have hlt : (bif (es.getD i (0, 0)).1 == v || (es.getD i (0, 0)).2 == v then o ^^^ 2 ^ i else o) < 2 ^ es.length := by
      cases (es.getD i (0, 0)).1 == v || (es.getD i (0, 0)).2 == v
      · exact ho
      · exact Nat.xor_lt_two_pow ho hpi
    refine Ev.step (fun k => ?_) (ih (i + 1) (by omega) _ hlt)
    simp only [impl_pushed.l0]
    have hrd := rd_toS es i
    rw [if_pos (by omega), if_pos (by omega), if_pos (by rw [toS_length]; omega), hrd, hw, shl_nat (by omega), hx]
    generalize es.getD i (0, 0) = x
    by_cases h1 : x.1 = v
    · rw [if_pos (by simp only; omega), show (x.1 == v) = true by simpa using h1]; simp
    · rw [if_neg (by simp only; omega), show (x.1 == v) = false by simpa using h1]
      by_cases h2 : x.2 = v
      · rw [if_pos (by simp only; omega), show (x.2 == v) = true by simpa using h2]; simp
      · rw [if_neg (by simp only; omega), show (x.2 == v) = false by simpa using h2]; simp
theorem pushed_ev {m : Nat} {es : Ed} (hv : Valid m es) (v : Nat) {b : Nat} (hb : b < 2 ^ es.length) (n : Int) :
    Ev (fun k => impl_pushed.f k n (toS es) (b : Int) (v : Int)) ((pushE v es 0 b : Nat) : Int) := by
  have h := pushed_l hv v es.length 0 (by omega) b hb
  unfold impl_pushed.f
  simp only [toS_length]; exact h
end Go.Proofs.Ytljaalhocjobeaa.Lk
