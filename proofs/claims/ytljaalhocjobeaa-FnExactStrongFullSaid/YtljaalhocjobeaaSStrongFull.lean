/-
  StrongFull of the program and of the reference tell the same, for every graph and number.
-/
import Derived.Test.YtljaalhocjobeaaLkFull
import Derived.Test.YtljaalhocjobeaaLkRefFull
import Derived.Test.YtljaalhocjobeaaPx42
import Derived.Test.YtljaalhocjobeaaPx40
namespace Go.Proofs.Ytljaalhocjobeaa.Lk
open Go Go.RowKit Go.Proofs.YtljaalhocjobeaaW.PrintWords Go.Proofs.YtljaalhocjobeaaW.PrintLast Go.Proofs.YtljaalhocjobeaaW.PrintMore Go.Proofs.Ytljaalhocjobeaa.P Go.Proofs.Ytljaalhocjobeaa.Gw
set_option linter.unusedVariables false
set_option linter.unusedSimpArgs false
theorem lenStrongFull {m : Nat} {es : Ed} (hv : Valid m es) : (toS es).length < 2 ^ 62 := by rw [toS_length]; have := hv.len; omega
theorem impl_StrongFull_no {n o : Int} {ys : List S53} (hl : ys.length < 2 ^ 62) (hw : wIn n ys o = false) : Ev (fun k => impl_StrongFull.f k n ys o) false := by
  unfold impl_StrongFull.f; exact Ev.bind (impl_wayIn hl) (by simpa [hw] using Ev.now _)
theorem spec_StrongFull_no {n o : Int} {ys : List S53} (hl : ys.length < 2 ^ 62) (hw : wIn n ys o = false) : Ev (fun k => spec_StrongFull.f k n ys o) false := by
  unfold spec_StrongFull.f; exact Ev.bind (spec_wayIn hl) (by simpa [hw] using Ev.now _)
theorem impl_StrongFull_ev {m : Nat} {es : Ed} (hv : Valid m es) {b : Nat} (hb : b < 2 ^ es.length) : Ev (fun k => impl_StrongFull.f k (m : Int) (toS es) (b : Int)) (fullF m (dirs es b)) := by
  unfold impl_StrongFull.f
  refine Ev.bind (impl_wayIn (lenStrongFull hv)) ?_
  rw [wIn_iff hv, decide_eq_true hb]
  simp only [if_true]
  exact Ev.bind (isFull_ev hv hb) (Ev.now _)
theorem spec_StrongFull_ev {m : Nat} {es : Ed} (hv : Valid m es) {b : Nat} (hb : b < 2 ^ es.length) : Ev (fun k => spec_StrongFull.f k (m : Int) (toS es) (b : Int)) (fullF m (dirs es b)) := by
  unfold spec_StrongFull.f
  refine Ev.bind (spec_wayIn (lenStrongFull hv)) ?_
  rw [wIn_iff hv, decide_eq_true hb]
  simp only [if_true]
  exact Ev.bind (refFull_ev hv hb) (Ev.now _)
theorem same_StrongFull (n : Int) (ys : List S53) (o : Int) (hl : ys.length < 2 ^ 62) : ∃ r, Ev (fun k => spec_StrongFull.f k n ys o) r ∧ Ev (fun k => impl_StrongFull.f k n ys o) r := by
  cases hw : wIn n ys o with
  | false => exact ⟨_, spec_StrongFull_no hl hw, impl_StrongFull_no hl hw⟩
  | true =>
    obtain ⟨m, es, b, rfl, rfl, hv, rfl, hb⟩ := wIn_valid hw
    exact ⟨_, spec_StrongFull_ev hv hb, impl_StrongFull_ev hv hb⟩
end Go.Proofs.Ytljaalhocjobeaa.Lk
