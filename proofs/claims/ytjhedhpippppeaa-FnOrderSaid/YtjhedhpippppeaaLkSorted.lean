/-
  The program's sorted and isPlain.
-/
import Derived.Test.YtjhedhpippppeaaLkNext
import Derived.Test.YtjhedhpippppeaaLkTurn
import Derived.Test.YtjhedhpippppeaaPx16
import Derived.Test.YtjhedhpippppeaaPx17
namespace Go.Proofs.Ytjhedhpippppeaa.Lk
open Go Go.RowKit Go.Proofs.YtjhedhpippppeaaW.PrintWords Go.Proofs.YtjhedhpippppeaaW.PrintLast Go.Proofs.YtjhedhpippppeaaW.PrintMore Go.Proofs.Ytjhedhpippppeaa.P Go.Proofs.Ytjhedhpippppeaa.Gw
set_option linter.unusedVariables false
set_option linter.unusedSimpArgs false
def bi : Option Nat → Int
  | none => -1
  | some u => (u : Int)
theorem sorted_l1 {m : Nat} (h5 : m ≤ 5) {rows : List Nat} (hl : rows.length = m) (hr : ∀ u, rows.getD u 0 < 32) (xs : List S33) (n : Int) {done : Nat} (hd : done < 32) (out : List Int) {r : List Int} :
    ∀ d : Nat, d ≤ m → ∀ best : Option Nat,
    Ev (fun k => if bi ((pickF d rows done).or best) < 0 then some out else if out.length < 17592186044416 then (if 0 ≤ bi ((pickF d rows done).or best) then impl_sorted.l0 k (toI rows) (out ++ [bi ((pickF d rows done).or best)]) (Go.bits .or .i64 (done : Int) (shl .i64 1 (bi ((pickF d rows done).or best)))) n xs else none) else none) r →
    Ev (fun k => impl_sorted.l1 k (toI rows) out (done : Int) (bi best) ((d : Int) - 1) n xs) r := by
  intro d
  induction d with
  | zero =>
    intro _ best h
    refine Ev.step (fun k => ?_) h
    simp only [impl_sorted.l1]
    rw [if_neg (by omega)]; rfl
  | succ d ih =>
    intro hdm best h
    have hpick : pickF (d + 1) rows done = (pickF d rows done).or (bif (!done.testBit d && (andn (rows.getD d 0) done == 0)) then some d else none) := by
      unfold pickF
      rw [List.range_succ, List.find?_append]
      rw [List.find?_singleton]
      cases (!done.testBit d && (andn (rows.getD d 0) done == 0)) <;> simp
    rw [hpick, Option.or_assoc] at h
    have hw : wrap64 (((d + 1 : Nat) : Int) - 1 - 1) = (d : Int) - 1 := by rw [wrap_id (by omega) (by omega)]; omega
    have hdd : ((d + 1 : Nat) : Int) - 1 = (d : Int) := by omega
    have hrd := hr d
    have hk := ih (by omega) _ h
    refine Ev.step (fun k => ?_) hk
    simp only [impl_sorted.l1]
    rw [hw, hdd, if_pos (by omega), if_pos (by omega)]
    cases ht : done.testBit d with
    | true => rw [if_neg (by rw [bit_zero (by omega) (by omega), ht]; simp)]; simp [bi]
    | false =>
      rw [if_pos ((bit_zero (by omega) (by omega)).mpr ht), if_pos (by rw [toI_length]; omega), rd_toI, andn_nat (by omega) (by omega)]
      by_cases h0 : andn (rows.getD d 0) done = 0
      · rw [if_pos (by omega), show (andn (rows.getD d 0) done == 0) = true by simpa using h0]; rfl
      · rw [if_neg (by omega), show (andn (rows.getD d 0) done == 0) = false by simpa using h0]; simp
theorem pickF_lt {m : Nat} {rows : List Nat} {done v : Nat} (h : pickF m rows done = some v) : v < m ∧ done.testBit v = false := by
  have h1 := List.find?_some h
  have h2 := List.mem_range.mp (List.mem_of_find?_eq_some h)
  simp only [Bool.and_eq_true, Bool.not_eq_true'] at h1
  exact ⟨h2, h1.1⟩
theorem sorted_l0 {m : Nat} (h5 : m ≤ 5) {rows : List Nat} (hl : rows.length = m) (hr : ∀ u, rows.getD u 0 < 32) (xs : List S33) : ∀ (f done : Nat), done < 2 ^ m → m < pc5 done + f → ∀ out : List Nat, out.length = pc5 done →
    Ev (fun k => impl_sorted.l0 k (toI rows) (toI out) (done : Int) (m : Int) xs) (toI (out ++ sortF m rows f done)) := by
  intro f
  induction f with
  | zero => intro done hd hp; have := pc5_le_n m (by omega) done hd; omega
  | succ f ih =>
    intro done hd hp out ho
    have hd32 := pow5 h5 hd
    have hw : wrap64 ((m : Int) - 1) = (m : Int) - 1 := wrap_id (by omega) (by omega)
    refine Ev.step (fun k => rfl) ?_
    simp only [impl_sorted.l0, hw]
    have hpc := pc5_le_n m (by omega) done hd
    refine sorted_l1 h5 hl hr xs (m : Int) hd32 (toI out) m (Nat.le_refl m) none ?_
    rw [Option.or_none, sortF]
    cases hpick : pickF m rows done with
    | none => simp only [bi, if_pos (show (-1 : Int) < 0 by omega), List.append_nil]; exact Ev.now _
    | some v =>
      obtain ⟨hv, hb⟩ := pickF_lt hpick
      have hadd := pc5_add done hd32 v (by omega) hb
      have p2 : 2 ^ v < 2 ^ 62 := small (n := 5) (by omega) (Nat.pow_lt_pow_right (by omega) (by omega))
      simp only [bi, if_neg (show ¬ (v : Int) < 0 by omega), if_pos (show (toI out).length < 17592186044416 by rw [toI_length]; omega), if_pos (show 0 ≤ (v : Int) by omega), toI_snoc, shl_nat (show v ≤ 61 by omega), or_nat (show done < 2 ^ 62 by omega) p2]
      have hlt : done ||| 2 ^ v < 2 ^ m := Nat.or_lt_two_pow hd (Nat.pow_lt_pow_right (by omega) hv)
      have h := ih (done ||| 2 ^ v) hlt (by omega) (out ++ [v]) (by rw [List.length_append, List.length_singleton]; omega)
      rw [List.append_assoc, List.singleton_append] at h
      exact h
/-- the order that the program finds -/
def srt (m : Nat) (ds : Ed) : List Nat := sortF m (rowsOf m (rev ds)) 6 0
theorem sorted_ev {m : Nat} {es : Ed} (hv : Valid m es) {b : Nat} (hb : b < 2 ^ es.length) :
    Ev (fun k => impl_sorted.f k (m : Int) (toS es) (b : Int)) (toI (srt m (dirs es b))) := by
  have h5 := hv.le
  unfold impl_sorted.f
  simp only [turned_eq hv hb, Option.bind_some]
  have hn := nextOf_ev hv (b := tn es.length b) tn_lt
  rw [dirs_tn es b hb] at hn
  refine Ev.bind hn ?_
  have hR := (dirs_inR hv.inR b).rev
  have h := sorted_l0 h5 (rowsOf_length m _) (rows_small h5 hR) (toS es) 6 0 (Nat.two_pow_pos m) (by have : pc5 0 = 0 := rfl; omega) [] rfl
  rw [List.nil_append] at h
  exact h
theorem isPlain_ev {m : Nat} {es : Ed} (hv : Valid m es) {b : Nat} (hb : b < 2 ^ es.length) :
    Ev (fun k => impl_isPlain.f k (m : Int) (toS es) (b : Int)) (plainF m (rowsOf m (dirs es b))) := by
  unfold impl_isPlain.f
  refine Ev.bind (sorted_ev hv hb) ?_
  have h := plain_eq hv.le (dirs_inR hv.inR b) 6 (by have := hv.le; omega)
  have : (((toI (srt m (dirs es b))).length : Int) == (m : Int)) = plainF m (rowsOf m (dirs es b)) := by
    rw [Bool.eq_iff_iff, ← h, toI_length, beq_iff_eq]
    show ((sortF m (rowsOf m (rev (dirs es b))) 6 0).length : Int) = (m : Int) ↔ _
    omega
  rw [this]; exact Ev.now _
end Go.Proofs.Ytjhedhpippppeaa.Lk
