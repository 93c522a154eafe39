/-
  PlainIn of the program and of the reference tell the same, for every graph and number.
-/
import Derived.Test.YtjhedhpippppeaaLkSorted
import Derived.Test.YtjhedhpippppeaaLkRefPlain
import Derived.Test.YtjhedhpippppeaaPx18
import Derived.Test.YtjhedhpippppeaaPx22
namespace Go.Proofs.Ytjhedhpippppeaa.Lk
open Go Go.RowKit Go.Proofs.YtjhedhpippppeaaW.PrintWords Go.Proofs.YtjhedhpippppeaaW.PrintLast Go.Proofs.YtjhedhpippppeaaW.PrintMore Go.Proofs.Ytjhedhpippppeaa.P Go.Proofs.Ytjhedhpippppeaa.Gw
set_option linter.unusedVariables false
set_option linter.unusedSimpArgs false
theorem lenPlainIn {m : Nat} {es : Ed} (hv : Valid m es) : (toS es).length < 2 ^ 62 := by rw [toS_length]; have := hv.len; omega
theorem impl_PlainIn_no {n o : Int} {ys : List S33} (hl : ys.length < 2 ^ 62) (hw : wIn n ys o = false) : Ev (fun k => impl_PlainIn.f k n ys o) false := by
  unfold impl_PlainIn.f; exact Ev.bind (impl_wayIn hl) (by simpa [hw] using Ev.now _)
theorem spec_PlainIn_no {n o : Int} {ys : List S33} (hl : ys.length < 2 ^ 62) (hw : wIn n ys o = false) : Ev (fun k => spec_PlainIn.f k n ys o) false := by
  unfold spec_PlainIn.f; exact Ev.bind (spec_wayIn hl) (by simpa [hw] using Ev.now _)
theorem impl_PlainIn_ev {m : Nat} {es : Ed} (hv : Valid m es) {b : Nat} (hb : b < 2 ^ es.length) : Ev (fun k => impl_PlainIn.f k (m : Int) (toS es) (b : Int)) (plainF m (rowsOf m (dirs es b))) := by
  unfold impl_PlainIn.f
  refine Ev.bind (impl_wayIn (lenPlainIn hv)) ?_
  rw [wIn_iff hv, decide_eq_true hb]
  simp only [if_true]
  exact Ev.bind (isPlain_ev hv hb) (Ev.now _)
theorem spec_PlainIn_ev {m : Nat} {es : Ed} (hv : Valid m es) {b : Nat} (hb : b < 2 ^ es.length) : Ev (fun k => spec_PlainIn.f k (m : Int) (toS es) (b : Int)) (plainF m (rowsOf m (dirs es b))) := by
  unfold spec_PlainIn.f
  refine Ev.bind (spec_wayIn (lenPlainIn hv)) ?_
  rw [wIn_iff hv, decide_eq_true hb]
  simp only [if_true]
  exact Ev.bind (refPlain_ev hv hb) (Ev.now _)
theorem same_PlainIn (n : Int) (ys : List S33) (o : Int) (hl : ys.length < 2 ^ 62) : ∃ r, Ev (fun k => spec_PlainIn.f k n ys o) r ∧ Ev (fun k => impl_PlainIn.f k n ys o) r := by
  cases hw : wIn n ys o with
  | false => exact ⟨_, spec_PlainIn_no hl hw, impl_PlainIn_no hl hw⟩
  | true =>
    obtain ⟨m, es, b, rfl, rfl, hv, rfl, hb⟩ := wIn_valid hw
    exact ⟨_, spec_PlainIn_ev hv hb, impl_PlainIn_ev hv hb⟩
end Go.Proofs.Ytjhedhpippppeaa.Lk
