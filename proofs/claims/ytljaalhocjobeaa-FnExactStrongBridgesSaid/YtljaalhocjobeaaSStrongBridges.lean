/-
  StrongBridges of the program and of the reference tell the same, for every graph.
-/
import Derived.Test.YtljaalhocjobeaaLkParts
import Derived.Test.YtljaalhocjobeaaLkRefParts
import Derived.Test.YtljaalhocjobeaaLkTurn
import Derived.Test.YtljaalhocjobeaaPx69
import Derived.Test.YtljaalhocjobeaaPx67
namespace Go.Proofs.Ytljaalhocjobeaa.Lk
open Go Go.RowKit Go.Proofs.YtljaalhocjobeaaW.PrintWords Go.Proofs.YtljaalhocjobeaaW.PrintLast Go.Proofs.YtljaalhocjobeaaW.PrintMore Go.Proofs.Ytljaalhocjobeaa.P Go.Proofs.Ytljaalhocjobeaa.Gw
set_option linter.unusedVariables false
set_option linter.unusedSimpArgs false
theorem lenBr {m : Nat} {es : Ed} (hv : Valid m es) : (toS es).length < 2 ^ 62 := by rw [toS_length]; have := hv.len; omega
/-- the bridges at places from 0 on -/
def bridgeAt (m : Nat) (es : Ed) (i : Nat) : Bool := decide (ufF m es < ufF m (sel es (andn (2 ^ es.length - 1) (2 ^ i))))
def bridgesUpto (m : Nat) (es : Ed) (i : Nat) : List Nat := (List.range i).filter (bridgeAt m es)
theorem bridges_succ (m : Nat) (es : Ed) (i : Nat) : bridgesUpto m es (i + 1) = bridgesUpto m es i ++ (bif bridgeAt m es i then [i] else []) := by
  rw [bridgesUpto, List.range_succ, List.filter_append]
  cases h : bridgeAt m es i <;> simp [bridgesUpto, h]
theorem bridges_len (m : Nat) (es : Ed) (i : Nat) : (bridgesUpto m es i).length ≤ i := by
  have := List.length_filter_le (bridgeAt m es) (List.range i)
  rw [List.length_range] at this; exact this
theorem implBr_l {m : Nat} {es : Ed} (hv : Valid m es) : ∀ d i : Nat, i + d = es.length →
    Ev (fun k => impl_StrongBridges.l0 k (toI (bridgesUpto m es i)) ((2 ^ es.length - 1 : Nat) : Int) (es.length : Int) (i : Int) (m : Int) (toS es)) (toI (bridgesUpto m es es.length), true) := by
  have hp := pow_le hv.len
  have h0 := Nat.two_pow_pos es.length
  have h10 := hv.len
  intro d
  induction d with
  | zero =>
    intro i hi
    obtain rfl : i = es.length := by omega
    refine Ev.step (f := fun _ => some (toI (bridgesUpto m es es.length), true)) (fun k => ?_) (Ev.now _)
    simp only [impl_StrongBridges.l0]; rw [if_neg (by omega)]
  | succ d ih =>
    intro i hi
    have hk := ih (i + 1) (by omega)
    rw [bridges_succ] at hk
    have hlen := bridges_len m es i
    have hw : wrap64 ((i : Int) + 1) = ((i + 1 : Nat) : Int) := by rw [wrap_id (by omega) (by omega)]; simp
    have p2 : 2 ^ i < 2 ^ 62 := small (n := 10) (by omega) (Nat.pow_lt_pow_right (by omega) (by omega))
    have hlt : andn (2 ^ es.length - 1) (2 ^ i) < 2 ^ 62 := andn_lt (by omega)
    have h1 := partsBy_ev hv (s := andn (2 ^ es.length - 1) (2 ^ i)) hlt
    have h2 := partsBy_ev hv (s := 2 ^ es.length - 1) (by omega)
    rw [sel_full] at h2
    refine Ev.step (fun k => rfl) ?_
    simp only [impl_StrongBridges.l0, if_pos (show (i : Int) < (es.length : Int) by omega), if_pos (show 0 ≤ (i : Int) by omega), shl_nat (show i ≤ 61 by omega), andn_nat (show 2 ^ es.length - 1 < 2 ^ 62 by omega) p2]
    refine Ev.bind h1 (Ev.bind h2 ?_)
    by_cases hb : ufF m es < ufF m (sel es (andn (2 ^ es.length - 1) (2 ^ i)))
    · have hba : bridgeAt m es i = true := decide_eq_true hb
      rw [hba] at hk
      simp only [if_pos (show ((ufF m (sel es (andn (2 ^ es.length - 1) (2 ^ i))) : Nat) : Int) > ((ufF m es : Nat) : Int) by omega), if_pos (show (toI (bridgesUpto m es i)).length < 17592186044416 by rw [toI_length]; omega), toI_snoc, hw]
      exact hk
    · have hba : bridgeAt m es i = false := decide_eq_false hb
      rw [hba] at hk
      simp only [if_neg (show ¬ ((ufF m (sel es (andn (2 ^ es.length - 1) (2 ^ i))) : Nat) : Int) > ((ufF m es : Nat) : Int) by omega), hw]
      simpa using hk
theorem specBr_l {m : Nat} {es : Ed} (hv : Valid m es) : ∀ d i : Nat, i + d = es.length →
    Ev (fun k => spec_StrongBridges.l0 k (toI (bridgesUpto m es i)) (i : Int) (m : Int) (toS es)) (toI (bridgesUpto m es es.length), true) := by
  have hp := pow_le hv.len
  have h0 := Nat.two_pow_pos es.length
  have h10 := hv.len
  intro d
  induction d with
  | zero =>
    intro i hi
    obtain rfl : i = es.length := by omega
    refine Ev.step (f := fun _ => some (toI (bridgesUpto m es es.length), true)) (fun k => ?_) (Ev.now _)
    simp only [spec_StrongBridges.l0]; rw [if_neg (by rw [toS_length]; omega)]
  | succ d ih =>
    intro i hi
    have hk := ih (i + 1) (by omega)
    rw [bridges_succ] at hk
    have hlen := bridges_len m es i
    have hw : wrap64 ((i : Int) + 1) = ((i + 1 : Nat) : Int) := by rw [wrap_id (by omega) (by omega)]; simp
    have p2 : 2 ^ i < 2 ^ 62 := small (n := 10) (by omega) (Nat.pow_lt_pow_right (by omega) (by omega))
    have hlt : andn (2 ^ es.length - 1) (2 ^ i) < 2 ^ 62 := andn_lt (by omega)
    have h1 := refParts_ev hv (s := andn (2 ^ es.length - 1) (2 ^ i)) hlt
    have h2 := refParts_ev hv (s := 2 ^ es.length - 1) (by omega)
    rw [sel_full] at h2
    have hil : (i : Int) < ((toS es).length : Int) := by rw [toS_length]; omega
    refine Ev.step (fun k => rfl) ?_
    simp only [spec_StrongBridges.l0, if_pos hil, all_eq hv, Option.bind_some, if_pos (show 0 ≤ (i : Int) by omega), shl_nat (show i ≤ 61 by omega), andn_nat (show 2 ^ es.length - 1 < 2 ^ 62 by omega) p2]
    refine Ev.bind h1 (Ev.bind h2 ?_)
    by_cases hb : ufF m es < ufF m (sel es (andn (2 ^ es.length - 1) (2 ^ i)))
    · have hba : bridgeAt m es i = true := decide_eq_true hb
      rw [hba] at hk
      simp only [if_pos (show ((ufF m (sel es (andn (2 ^ es.length - 1) (2 ^ i))) : Nat) : Int) > ((ufF m es : Nat) : Int) by omega), if_pos (show (toI (bridgesUpto m es i)).length < 17592186044416 by rw [toI_length]; omega), toI_snoc, hw]
      exact hk
    · have hba : bridgeAt m es i = false := decide_eq_false hb
      rw [hba] at hk
      simp only [if_neg (show ¬ ((ufF m (sel es (andn (2 ^ es.length - 1) (2 ^ i))) : Nat) : Int) > ((ufF m es : Nat) : Int) by omega), hw]
      simpa using hk
theorem impl_StrongBridges_no {n : Int} {ys : List S53} (hl : ys.length < 2 ^ 62) (hw : gOk n ys = false) : Ev (fun k => impl_StrongBridges.f k n ys) ([], false) := by
  unfold impl_StrongBridges.f; exact Ev.bind (impl_wayGraph hl) (by simpa [hw] using Ev.now _)
theorem spec_StrongBridges_no {n : Int} {ys : List S53} (hl : ys.length < 2 ^ 62) (hw : gOk n ys = false) : Ev (fun k => spec_StrongBridges.f k n ys) ([], false) := by
  unfold spec_StrongBridges.f; simp only [Option.bind_some]; exact Ev.bind (spec_wayGraph hl) (by simpa [hw] using Ev.now _)
theorem impl_StrongBridges_ev {m : Nat} {es : Ed} (hv : Valid m es) : Ev (fun k => impl_StrongBridges.f k (m : Int) (toS es)) (toI (bridgesUpto m es es.length), true) := by
  unfold impl_StrongBridges.f
  refine Ev.bind (impl_wayGraph (lenBr hv)) ?_
  rw [valid_gOk_iff hv]
  simp only [if_true, allm1 hv, toS_length]
  have := implBr_l hv es.length 0 (by omega)
  have hw := allm1 hv
  rw [toS_length] at hw
  simp only [hw]
  exact this
theorem spec_StrongBridges_ev {m : Nat} {es : Ed} (hv : Valid m es) : Ev (fun k => spec_StrongBridges.f k (m : Int) (toS es)) (toI (bridgesUpto m es es.length), true) := by
  unfold spec_StrongBridges.f
  simp only [Option.bind_some]
  refine Ev.bind (spec_wayGraph (lenBr hv)) ?_
  rw [valid_gOk_iff hv]
  simp only [if_true]
  exact specBr_l hv es.length 0 (by omega)
theorem same_StrongBridges (n : Int) (ys : List S53) (hl : ys.length < 2 ^ 62) : ∃ r : List Int × Bool, Ev (fun k => spec_StrongBridges.f k n ys) r ∧ Ev (fun k => impl_StrongBridges.f k n ys) r ∧ r.1.length ≤ 1000 := by
  cases hw : gOk n ys with
  | false => exact ⟨_, spec_StrongBridges_no hl hw, impl_StrongBridges_no hl hw, by simp⟩
  | true =>
    obtain ⟨m, es, rfl, rfl, hv⟩ := gOk_valid hw
    exact ⟨_, spec_StrongBridges_ev hv, impl_StrongBridges_ev hv, by rw [toI_length]; have := bridges_len m es es.length; have := hv.len; omega⟩
end Go.Proofs.Ytljaalhocjobeaa.Lk
