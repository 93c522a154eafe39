/-
  StrongIn of the program and of the reference tell the same, for every graph and number.
-/
import Derived.Test.YtljaalhocjobeaaLkBlocks
import Derived.Test.YtljaalhocjobeaaLkRefStrong
import Derived.Test.YtljaalhocjobeaaPx37
import Derived.Test.YtljaalhocjobeaaPx34
namespace Go.Proofs.Ytljaalhocjobeaa.Lk
open Go Go.RowKit Go.Proofs.YtljaalhocjobeaaW.PrintWords Go.Proofs.YtljaalhocjobeaaW.PrintLast Go.Proofs.YtljaalhocjobeaaW.PrintMore Go.Proofs.Ytljaalhocjobeaa.P Go.Proofs.Ytljaalhocjobeaa.Gw
set_option linter.unusedVariables false
set_option linter.unusedSimpArgs false
theorem lenStrongIn {m : Nat} {es : Ed} (hv : Valid m es) : (toS es).length < 2 ^ 62 := by rw [toS_length]; have := hv.len; omega
theorem impl_StrongIn_no {n o : Int} {ys : List S53} (hl : ys.length < 2 ^ 62) (hw : wIn n ys o = false) : Ev (fun k => impl_StrongIn.f k n ys o) false := by
  unfold impl_StrongIn.f; exact Ev.bind (impl_wayIn hl) (by simpa [hw] using Ev.now _)
theorem spec_StrongIn_no {n o : Int} {ys : List S53} (hl : ys.length < 2 ^ 62) (hw : wIn n ys o = false) : Ev (fun k => spec_StrongIn.f k n ys o) false := by
  unfold spec_StrongIn.f; exact Ev.bind (spec_wayIn hl) (by simpa [hw] using Ev.now _)
theorem impl_StrongIn_ev {m : Nat} {es : Ed} (hv : Valid m es) {b : Nat} (hb : b < 2 ^ es.length) : Ev (fun k => impl_StrongIn.f k (m : Int) (toS es) (b : Int)) (strongF m (dirs es b)) := by
  unfold impl_StrongIn.f
  refine Ev.bind (impl_wayIn (lenStrongIn hv)) ?_
  rw [wIn_iff hv, decide_eq_true hb]
  simp only [if_true]
  refine Ev.bind (blocksOf_ev hv hb) ?_
  rw [oneBlock hv b]; exact Ev.now _
theorem spec_StrongIn_ev {m : Nat} {es : Ed} (hv : Valid m es) {b : Nat} (hb : b < 2 ^ es.length) : Ev (fun k => spec_StrongIn.f k (m : Int) (toS es) (b : Int)) (strongF m (dirs es b)) := by
  unfold spec_StrongIn.f
  refine Ev.bind (spec_wayIn (lenStrongIn hv)) ?_
  rw [wIn_iff hv, decide_eq_true hb]
  simp only [if_true]
  exact Ev.bind (refStrong_ev hv hb) (Ev.now _)
theorem same_StrongIn (n : Int) (ys : List S53) (o : Int) (hl : ys.length < 2 ^ 62) : ∃ r, Ev (fun k => spec_StrongIn.f k n ys o) r ∧ Ev (fun k => impl_StrongIn.f k n ys o) r := by
  cases hw : wIn n ys o with
  | false => exact ⟨_, spec_StrongIn_no hl hw, impl_StrongIn_no hl hw⟩
  | true =>
    obtain ⟨m, es, b, rfl, rfl, hv, rfl, hb⟩ := wIn_valid hw
    exact ⟨_, spec_StrongIn_ev hv hb, impl_StrongIn_ev hv hb⟩
end Go.Proofs.Ytljaalhocjobeaa.Lk
