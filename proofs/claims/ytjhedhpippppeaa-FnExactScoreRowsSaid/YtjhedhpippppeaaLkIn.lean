/-
  WayIn, of the program and of the reference: both tell 'wIn'; the direction turned.
-/
import Derived.Test.YtjhedhpippppeaaLkG
import Derived.Test.YtjhedhpippppeaaPx6
import Derived.Test.YtjhedhpippppeaaPx12
namespace Go.Proofs.Ytjhedhpippppeaa.Lk
open Go Go.RowKit Go.Proofs.YtjhedhpippppeaaW.PrintWords Go.Proofs.YtjhedhpippppeaaW.PrintLast Go.Proofs.YtjhedhpippppeaaW.PrintMore Go.Proofs.Ytjhedhpippppeaa.P Go.Proofs.Ytjhedhpippppeaa.Gw
set_option linter.unusedVariables false
set_option linter.unusedSimpArgs false

/-- a direction of a graph -/
def wIn (n : Int) (xs : List S33) (o : Int) : Bool := gOk n xs && (decide (0 ≤ o) && decide (o < ((2 ^ xs.length : Nat) : Int)))
theorem gOk_len {n : Int} {xs : List S33} (h : gOk n xs = true) : xs.length ≤ 10 := by
  obtain ⟨m, es, _, rfl, hv⟩ := gOk_valid h
  rw [toS_length]; exact hv.len
theorem pow_le {l : Nat} (h : l ≤ 10) : 2 ^ l ≤ 1024 := Nat.pow_le_pow_right (n := 2) (j := 10) (by omega) h
theorem impl_wayIn {n o : Int} {xs : List S33} (hl : xs.length < 2 ^ 62) : Ev (fun k => impl_WayIn.f k n xs o) (wIn n xs o) := by
  unfold impl_WayIn.f wIn
  refine Ev.bind (impl_wayGraph hl) ?_
  cases hg : gOk n xs with
  | false => simpa using Ev.now false
  | true =>
    have h10 := gOk_len hg
    simp only [if_true, Bool.true_and, shl_nat (show xs.length ≤ 61 by omega)]
    by_cases h : o ≥ 0
    · simp only [if_pos h]; rw [decide_eq_true (show 0 ≤ o from h)]; exact Ev.now _
    · simp only [if_neg h]; rw [decide_eq_false (show ¬ 0 ≤ o from h)]; exact Ev.now _
theorem spec_wayIn {n o : Int} {xs : List S33} (hl : xs.length < 2 ^ 62) : Ev (fun k => spec_WayIn.f k n xs o) (wIn n xs o) := by
  unfold spec_WayIn.f wIn
  refine Ev.bind (spec_wayGraph hl) ?_
  cases hg : gOk n xs with
  | false => simpa using Ev.now false
  | true =>
    have h10 := gOk_len hg
    have hp := pow_le h10
    simp only [if_true, Bool.true_and, shl_nat (show xs.length ≤ 61 by omega)]
    generalize 2 ^ xs.length = p at hp
    rw [wrap_id (x := (p : Int) - 1) (by omega) (by omega)]
    simp only [l6In_eq, Option.bind_some]
    have : decide (o ≤ (p : Int) - 1) = decide (o < (p : Int)) := by rw [decide_eq_decide]; omega
    rw [this]; exact Ev.now _
theorem wIn_valid {n o : Int} {xs : List S33} (h : wIn n xs o = true) : ∃ (m : Nat) (es : Ed) (b : Nat), n = (m : Int) ∧ xs = toS es ∧ Valid m es ∧ o = (b : Int) ∧ b < 2 ^ es.length := by
  unfold wIn at h
  simp only [Bool.and_eq_true, decide_eq_true_eq] at h
  obtain ⟨m, es, rfl, rfl, hv⟩ := gOk_valid h.1
  obtain ⟨b, rfl⟩ := Int.eq_ofNat_of_zero_le h.2.1
  refine ⟨m, es, b, rfl, rfl, hv, rfl, ?_⟩
  have := h.2.2; rw [toS_length] at this
  exact Int.ofNat_lt.mp this
theorem valid_gOk_iff {m : Nat} {es : Ed} (hv : Valid m es) : gOk (m : Int) (toS es) = true := by
  unfold gOk
  have h1 := hv.pos; have h5 := hv.le
  rw [decide_eq_true (show 1 ≤ (m : Int) by omega), decide_eq_true (show (m : Int) ≤ 5 by omega)]
  have key : ∀ d i : Nat, i + d = (toS es).length → okFrom (m : Int) (toS es) d i = true := by
    intro d
    induction d with
    | zero => intro i _; rfl
    | succ d ih =>
      intro i hi
      rw [okFrom, ih (i + 1) (by omega)]
      rw [toS_length] at hi
      have hi' : i < es.length := by omega
      have g : ∀ j (hj : j < es.length), (toS es).getD j z33 = ⟨((es[j]).1 : Int), ((es[j]).2 : Int)⟩ := fun j hj => by
        simp [toS, List.getD_eq_getElem?_getD, List.getElem?_map, List.getElem?_eq_getElem hj]
      have hlt := hv.lt _ (List.getElem_mem hi')
      have hr := hv.inR _ (List.getElem_mem hi')
      have hb : badAt (m : Int) (toS es) i = false := by
        simp only [badAt, g i hi', Bool.or_eq_false_iff, decide_eq_false_iff_not]; omega
      have hk : backAt (toS es) i = false := by
        by_cases h0 : 0 < i
        · have hs := List.pairwise_iff_getElem.mp hv.sorted (i - 1) i (by omega) hi' (by omega)
          unfold lexlt at hs
          simp only [backAt, g i hi', g (i - 1) (by omega), Bool.and_eq_false_iff, Bool.or_eq_false_iff, decide_eq_false_iff_not]
          omega
        · simp [backAt, h0]
      rw [hb, hk]; rfl
  rw [key _ 0 (by omega)]; rfl
theorem wIn_iff {m : Nat} {es : Ed} (hv : Valid m es) (b : Nat) : wIn (m : Int) (toS es) (b : Int) = decide (b < 2 ^ es.length) := by
  unfold wIn; rw [valid_gOk_iff hv, toS_length, decide_eq_true (show (0 : Int) ≤ (b : Int) by omega), Bool.true_and, Bool.true_and, decide_eq_decide]
  exact Int.ofNat_lt
/-- turned: all bits the other way -/
def tn (l b : Nat) : Nat := 2 ^ l - 1 - b
theorem tn_lt {l b : Nat} : tn l b < 2 ^ l := by unfold tn; have := Nat.two_pow_pos l; omega
theorem tn_bit {l b : Nat} (h : b < 2 ^ l) (i : Nat) : (tn l b).testBit i = (decide (i < l) && !b.testBit i) := by
  unfold tn; rw [show 2 ^ l - 1 - b = 2 ^ l - (b + 1) by omega]; exact Nat.testBit_two_pow_sub_succ h i
theorem tn_xor {l b : Nat} (h : b < 2 ^ l) : b ^^^ (2 ^ l - 1) = tn l b := by
  apply Nat.eq_of_testBit_eq; intro i
  rw [tn_bit h, Nat.testBit_xor, full_bit]
  by_cases hi : i < l
  · simp [hi]
  · simp [hi, Nat.testBit_lt_two_pow (Nat.lt_of_lt_of_le h (Nat.pow_le_pow_right (n := 2) (by omega) (Nat.le_of_not_lt hi)))]
theorem tn_tn {l b : Nat} (h : b < 2 ^ l) : tn l (tn l b) = b := by unfold tn; omega
theorem dirs_tn : ∀ (es : Ed) (b : Nat), b < 2 ^ es.length → dirs es (tn es.length b) = rev (dirs es b) := by
  intro es b hb
  apply List.ext_getElem? ; intro i
  rw [rev, List.getElem?_map, dirs_get, dirs_get]
  cases h : es[i]? with
  | none => rfl
  | some e =>
    have hi : i < es.length := (List.getElem?_eq_some_iff.mp h).1
    simp only [Option.map_some, tn_bit hb, hi, decide_true, Bool.true_and]
    cases b.testBit i <;> rfl
end Go.Proofs.Ytjhedhpippppeaa.Lk
