/-
  PlainColours of the program and of the reference tell the same, for every graph and every count of colours.
-/
import Derived.Test.YtjhedhpippppeaaLkIPoly
import Derived.Test.YtjhedhpippppeaaLkRPoly
import Derived.Test.YtjhedhpippppeaaLkIVal
import Derived.Test.YtjhedhpippppeaaLkRVal
import Derived.Test.YtjhedhpippppeaaPx42
import Derived.Test.YtjhedhpippppeaaPx44
namespace Go.Proofs.Ytjhedhpippppeaa.Lk
open Go Go.RowKit Go.Proofs.YtjhedhpippppeaaW.PrintWords Go.Proofs.YtjhedhpippppeaaW.PrintLast Go.Proofs.YtjhedhpippppeaaW.PrintMore Go.Proofs.Ytjhedhpippppeaa.P Go.Proofs.Ytjhedhpippppeaa.Gw
set_option linter.unusedVariables false
set_option linter.unusedSimpArgs false
theorem implColours_ev {m : Nat} {es : Ed} (hv : Valid m es) (k : Int) : Ev (fun i => impl_PlainColours.f i (m : Int) (toS es) k) (if 0 ≤ k ∧ k ≤ 10 then (colV m es k.toNat, true) else (0, false)) := by
  unfold impl_PlainColours.f
  refine Ev.bind (implPoly_ev hv) ?_
  simp only [if_true]
  by_cases h0 : k < 0
  · simp only [h0, if_true]
    rw [if_neg (by omega)]; exact Ev.now _
  · by_cases h1 : k > 10
    · simp only [h0, h1, if_true, if_false]
      rw [if_neg (by omega)]; exact Ev.now _
    · simp only [h0, h1, if_false]
      obtain ⟨x, rfl⟩ : ∃ x : Nat, k = (x : Int) := ⟨k.toNat, by omega⟩
      rw [if_pos ⟨by omega, by omega⟩, Int.toNat_natCast]
      exact Ev.bind (IVal_ev hv (by omega)) (Ev.now _)
theorem specColours_ev {m : Nat} {es : Ed} (hv : Valid m es) (k : Int) : Ev (fun i => spec_PlainColours.f i (m : Int) (toS es) k) (if 0 ≤ k ∧ k ≤ 10 then (colV m es k.toNat, true) else (0, false)) := by
  unfold spec_PlainColours.f
  refine Ev.bind (spec_wayGraph (by rw [toS_length]; have := hv.len; omega)) ?_
  rw [valid_gOk_iff hv]
  have hin : spec_l6In.f k 0 10 = some (decide (0 ≤ k ∧ k ≤ 10)) := by
    unfold spec_l6In.f
    by_cases h0 : 0 ≤ k <;> by_cases h1 : k ≤ 10 <;> simp [h0, h1] <;> omega
  simp only [if_true, hin, Option.bind_some]
  refine Ev.step (fun i => rfl) ?_
  by_cases hk : 0 ≤ k ∧ k ≤ 10
  · obtain ⟨x, rfl⟩ : ∃ x : Nat, k = (x : Int) := ⟨k.toNat, by omega⟩
    rw [if_pos hk, Int.toNat_natCast]
    simp only [hk, decide_true, Bool.not_true, and_self, if_false, Bool.false_eq_true]
    exact Ev.bind (refPoly_ev hv) (Ev.bind (RVal_ev hv (by omega)) (Ev.now _))
  · rw [if_neg hk]
    simp only [hk, decide_false, Bool.not_false, if_true]
    exact Ev.now _
theorem specColours_no {n : Int} {ys : List S33} (hl : ys.length < 2 ^ 62) (hw : gOk n ys = false) (k : Int) : Ev (fun i => spec_PlainColours.f i n ys k) (0, false) := by
  unfold spec_PlainColours.f
  refine Ev.bind (spec_wayGraph hl) ?_
  simp only [hw, if_false, Bool.false_eq_true]
  refine Ev.step (fun i => by simp only [spec_PlainColours.j0]; rfl) ?_
  simp only [if_true]; exact Ev.now _
theorem implColours_no {n : Int} {ys : List S33} (hl : ys.length < 2 ^ 62) (hw : gOk n ys = false) (k : Int) : Ev (fun i => impl_PlainColours.f i n ys k) (0, false) := by
  unfold impl_PlainColours.f
  exact Ev.bind (implPoly_no hl hw) (by simpa using Ev.now _)
theorem same_PlainColours (n : Int) (ys : List S33) (k : Int) (hl : ys.length < 2 ^ 62) : ∃ r : Int × Bool, Ev (fun i => spec_PlainColours.f i n ys k) r ∧ Ev (fun i => impl_PlainColours.f i n ys k) r := by
  cases hw : gOk n ys with
  | false => exact ⟨_, specColours_no hl hw k, implColours_no hl hw k⟩
  | true =>
    obtain ⟨m, es, rfl, rfl, hv⟩ := gOk_valid hw
    exact ⟨_, specColours_ev hv k, implColours_ev hv k⟩
end Go.Proofs.Ytjhedhpippppeaa.Lk
