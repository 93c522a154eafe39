/-
  PlainOrder of the program and of the reference tell the same, for every graph and number.
-/
import Derived.Test.YtjhedhpippppeaaSPlainIn
import Derived.Test.YtjhedhpippppeaaPx19
import Derived.Test.YtjhedhpippppeaaPx23
namespace Go.Proofs.Ytjhedhpippppeaa.Lk
open Go Go.RowKit Go.Proofs.YtjhedhpippppeaaW.PrintWords Go.Proofs.YtjhedhpippppeaaW.PrintLast Go.Proofs.YtjhedhpippppeaaW.PrintMore Go.Proofs.Ytjhedhpippppeaa.P Go.Proofs.Ytjhedhpippppeaa.Gw
set_option linter.unusedVariables false
set_option linter.unusedSimpArgs false
def noBack (v s : Nat) (e : Nat × Nat) : Bool := !(e.2 == v && s.testBit e.1)
theorem back_all {m : Nat} {ds : Ed} (hd : InR m ds) {done v : Nat} (hdn : done < 2 ^ m) (hv : v < m) :
    ((andn (2 ^ m - 1) done).testBit v && ds.all (noBack v (andn (2 ^ m - 1) done))) = (!done.testBit v && (andn ((rowsOf m (rev ds)).getD v 0) done == 0)) := by
  have h1 : (andn (2 ^ m - 1) done).testBit v = !done.testBit v := by rw [andn_bit, full_bit]; simp [hv]
  rw [h1]
  congr 1
  rw [Bool.eq_iff_iff, List.all_eq_true, beq_iff_eq]
  have hf := row_free hd.rev (andn (2 ^ m - 1) done) v
  have heq : andn ((rowsOf m (rev ds)).getD v 0) done = (rowsOf m (rev ds)).getD v 0 &&& andn (2 ^ m - 1) done := by
    apply Nat.eq_of_testBit_eq; intro i
    rw [andn_bit, Nat.testBit_and, andn_bit, full_bit]
    cases hr : ((rowsOf m (rev ds)).getD v 0).testBit i with
    | false => rfl
    | true =>
      have := (hd.rev _ ((rowsOf_bit hd.rev v i).mp hr)).2
      simp [this]
  rw [heq, hf]
  constructor
  · rintro h ⟨a, c⟩ he rfl
    have := h (c, a) (mem_rev.mp he)
    simpa [noBack] using this
  · rintro h ⟨a, c⟩ he
    unfold noBack
    by_cases h2 : c = v
    · subst h2
      have := h (c, a) (mem_rev.mpr he) rfl
      simp only at this
      simp [this]
    · simp [h2]
theorem po_l2 {m : Nat} {es : Ed} (hv : Valid m es) {b : Nat} (hb : b < 2 ^ es.length) {s : Nat} (hs : s < 32) (out : List Int) (best : Int) {v : Nat} (hvm : v < m) {r : List Int × Bool} : ∀ d i : Nat, i + d = es.length → ∀ fr : Bool,
    Ev (fun k => if (fr && ((dirs es b).drop i).all (noBack v s)) = true then spec_PlainOrder.l1 k (b : Int) out (s : Int) (v : Int) (wrap64 ((v : Int) - 1)) (m : Int) (toS es) else spec_PlainOrder.l1 k (b : Int) out (s : Int) best (wrap64 ((v : Int) - 1)) (m : Int) (toS es)) r →
    Ev (fun k => spec_PlainOrder.l2 k (b : Int) out (s : Int) best (v : Int) fr (i : Int) (m : Int) (toS es)) r := by
  have hD := dirs_length es b
  have hR := dirs_inR hv.inR b
  have h10 := hv.len
  have h5 := hv.le
  have b62 : b < 2 ^ 62 := by have hp := pow_le hv.len; omega
  clear hb
  intro d
  induction d with
  | zero =>
    intro i hi fr h
    rw [List.drop_eq_nil_of_le (by omega)] at h
    simp only [List.all_nil, Bool.and_true] at h
    refine Ev.step (fun k => ?_) h
    simp only [spec_PlainOrder.l2]
    rw [if_neg (by rw [toS_length]; omega)]
  | succ d ih =>
    intro i hi fr h
    have hil3 : i < es.length := by clear ih h; omega
    have l60 : es.length ≤ 60 := by clear ih h; omega
    have hre := refEnds_eq (es := es) (b := b) (i := i) b62 l60 hil3 (m : Int)
    have hil2 : (i : Int) < ((toS es).length : Int) := by rw [toS_length]; exact Int.ofNat_lt.mpr hil3
    have hil : i < (dirs es b).length := by rw [hD]; exact hil3
    have hdrop : (dirs es b).drop i = (dirs es b).getD i (0, 0) :: (dirs es b).drop (i + 1) := by
      rw [List.drop_eq_getElem_cons hil, List.getD_eq_getElem?_getD, List.getElem?_eq_getElem hil]; rfl
    rw [hdrop, List.all_cons, ← Bool.and_assoc] at h
    have he := hR _ (getD_mem (ds := dirs es b) hil)
    have hk := ih (i + 1) (by omega) _ h
    clear h ih
    have hwi : wrap64 ((i : Int) + 1) = ((i + 1 : Nat) : Int) := by rw [wrap_id (by omega) (by omega)]; simp
    refine Ev.step (fun k => ?_) hk
    simp only [spec_PlainOrder.l2]
    rw [if_pos hil2, hre]
    simp only [Option.bind_some, hwi]
    unfold noBack
    clear hre hdrop
    generalize (dirs es b).getD i (0, 0) = x at *
    by_cases h1 : x.2 = v
    · rw [if_pos (by omega), if_pos (by omega)]
      cases ht : s.testBit x.1 with
      | true => rw [if_pos ((bit_one (by omega) (by omega)).mpr ht)]; simp [h1]
      | false => rw [if_neg (by rw [bit_one (by omega) (by omega), ht]; simp)]; simp
    · rw [if_neg (by omega), show (x.2 == v) = false by simpa using h1]; simp
theorem po_l1 {m : Nat} {es : Ed} (hv : Valid m es) {b : Nat} (hb : b < 2 ^ es.length) {done : Nat} (hdn : done < 2 ^ m) (out : List Int) {r : List Int × Bool} : ∀ d : Nat, d ≤ m → ∀ best : Option Nat,
    Ev (fun k => if out.length < 17592186044416 then (if 0 ≤ bi ((pickF d (rowsOf m (rev (dirs es b))) done).or best) then spec_PlainOrder.l0 k (b : Int) (out ++ [bi ((pickF d (rowsOf m (rev (dirs es b))) done).or best)]) (Go.bits .andNot .i64 ((andn (2 ^ m - 1) done : Nat) : Int) (shl .i64 1 (bi ((pickF d (rowsOf m (rev (dirs es b))) done).or best)))) (m : Int) (toS es) else none) else none) r →
    Ev (fun k => spec_PlainOrder.l1 k (b : Int) out ((andn (2 ^ m - 1) done : Nat) : Int) (bi best) ((d : Int) - 1) (m : Int) (toS es)) r := by
  have h5 := hv.le
  have hR := dirs_inR hv.inR b
  have h0 := Nat.two_pow_pos m
  have hs : andn (2 ^ m - 1) done < 32 := pow5 h5 (andn_lt (by omega))
  intro d
  induction d with
  | zero =>
    intro _ best h
    refine Ev.step (fun k => ?_) h
    simp only [spec_PlainOrder.l1]
    rw [if_neg (by omega)]; rfl
  | succ d ih =>
    intro hdm best h
    have hpick : pickF (d + 1) (rowsOf m (rev (dirs es b))) done = (pickF d (rowsOf m (rev (dirs es b))) done).or (bif (!done.testBit d && (andn ((rowsOf m (rev (dirs es b))).getD d 0) done == 0)) then some d else none) := by
      unfold pickF
      rw [List.range_succ, List.find?_append]
      rw [List.find?_singleton]
      cases (!done.testBit d && (andn ((rowsOf m (rev (dirs es b))).getD d 0) done == 0)) <;> simp
    rw [hpick, Option.or_assoc] at h
    have hk := ih (by omega) _ h
    clear h ih hpick
    have hw : wrap64 ((d : Int) - 1) = (d : Int) - 1 := by rw [wrap_id (by omega) (by omega)]
    have hdd : ((d + 1 : Nat) : Int) - 1 = (d : Int) := by omega
    have hall := back_all hR hdn (show d < m by omega)
    have hbit : (Go.bits .and .i64 (shr .i64 ((andn (2 ^ m - 1) done : Nat) : Int) (d : Int)) 1 == 1) = (andn (2 ^ m - 1) done).testBit d := by
      rw [Bool.eq_iff_iff, beq_iff_eq, bit_one (by omega) (by omega)]
    refine Ev.step (f := fun k => spec_PlainOrder.l2 k (b : Int) out ((andn (2 ^ m - 1) done : Nat) : Int) (bi best) (d : Int) ((andn (2 ^ m - 1) done).testBit d) ((0 : Nat) : Int) (m : Int) (toS es)) (fun k => by
      simp only [spec_PlainOrder.l1]
      rw [hdd, if_pos (by omega), if_pos (by omega), hbit]; rfl) ?_
    refine po_l2 hv hb hs out (bi best) (by omega) es.length 0 (by omega) _ ?_
    rw [List.drop_zero, hall, hw]
    cases hc : (!done.testBit d && (andn ((rowsOf m (rev (dirs es b))).getD d 0) done == 0)) with
    | true => rw [hc] at hk; simpa [bi] using hk
    | false => rw [hc] at hk; simpa using hk
theorem po_l0 {m : Nat} {es : Ed} (hv : Valid m es) {b : Nat} (hb : b < 2 ^ es.length) : ∀ (f done : Nat), done < 2 ^ m → m < pc5 done + f → ∀ out : List Nat, out.length = pc5 done → (out ++ sortF m (rowsOf m (rev (dirs es b))) f done).length = m →
    Ev (fun k => spec_PlainOrder.l0 k (b : Int) (toI out) ((andn (2 ^ m - 1) done : Nat) : Int) (m : Int) (toS es)) (toI (out ++ sortF m (rowsOf m (rev (dirs es b))) f done), true) := by
  have h5 := hv.le
  have h0 := Nat.two_pow_pos m
  intro f
  induction f with
  | zero => intro done hd hp; have := pc5_le_n m (by omega) done hd; omega
  | succ f ih =>
    intro done hd hp out ho hlen
    have hpc := pc5_le_n m (by omega) done hd
    have hd32 := pow5 h5 hd
    rw [List.length_append] at hlen
    by_cases hz : andn (2 ^ m - 1) done = 0
    · have hfull : done = 2 ^ m - 1 := by
        apply Nat.eq_of_testBit_eq; intro i
        have := congrArg (fun x => x.testBit i) hz
        simp only [andn_bit, full_bit, Nat.zero_testBit] at this
        rw [full_bit]
        by_cases hi : i < m
        · simpa [hi] using this
        · simp [hi, Nat.testBit_lt_two_pow (Nat.lt_of_lt_of_le hd (Nat.pow_le_pow_right (n := 2) (by omega) (Nat.le_of_not_lt hi)))]
      have hpm : pc5 done = m := by rw [hfull]; exact (show ∀ n, n < 6 → pc5 (2 ^ n - 1) = n by decide) m (by omega)
      have hnil : sortF m (rowsOf m (rev (dirs es b))) (f + 1) done = [] := List.eq_nil_of_length_eq_zero (by omega)
      rw [hnil, List.append_nil]
      refine Ev.step (f := fun _ => some (toI out, true)) (fun k => ?_) (Ev.now _)
      simp only [spec_PlainOrder.l0, hz]
      rw [if_neg (by omega)]
    · have hw : wrap64 ((m : Int) - 1) = (m : Int) - 1 := wrap_id (by omega) (by omega)
      have hne : pc5 done ≠ m := by
        intro e
        have := pc5_full m (by omega) done hd e
        apply hz
        rw [this]
        apply eq_zero_of_bits; intro i; rw [andn_bit]; simp
      have hs : andn (2 ^ m - 1) done < 32 := pow5 h5 (andn_lt (by omega))
      refine Ev.step (fun k => rfl) ?_
      simp only [spec_PlainOrder.l0, hw, if_pos (show ((andn (2 ^ m - 1) done : Nat) : Int) > 0 by omega)]
      refine po_l1 hv hb hd (toI out) m (Nat.le_refl m) none ?_
      rw [Option.or_none]
      rw [sortF] at hlen ⊢
      cases hpick : pickF m (rowsOf m (rev (dirs es b))) done with
      | none => rw [hpick] at hlen; simp only [List.length_nil] at hlen; omega
      | some v =>
        rw [hpick] at hlen
        simp only [List.length_cons] at hlen
        obtain ⟨hv2, hbt⟩ := pickF_lt hpick
        have hadd := pc5_add done hd32 v (by omega) hbt
        have p2 : 2 ^ v < 2 ^ 62 := small (n := 5) (by omega) (Nat.pow_lt_pow_right (by omega) (by omega))
        have heq : andn (andn (2 ^ m - 1) done) (2 ^ v) = andn (2 ^ m - 1) (done ||| 2 ^ v) := by
          apply Nat.eq_of_testBit_eq; intro i
          rw [andn_bit, andn_bit, andn_bit, Nat.testBit_or]
          cases (2 ^ m - 1).testBit i <;> cases done.testBit i <;> simp
        simp only [bi, if_pos (show (toI out).length < 17592186044416 by rw [toI_length]; omega), if_pos (show 0 ≤ (v : Int) by omega), toI_snoc, shl_nat (show v ≤ 61 by omega), andn_nat (show andn (2 ^ m - 1) done < 2 ^ 62 by omega) p2, heq]
        have hlt : done ||| 2 ^ v < 2 ^ m := Nat.or_lt_two_pow hd (Nat.pow_lt_pow_right (by omega) hv2)
        have h := ih (done ||| 2 ^ v) hlt (by omega) (out ++ [v]) (by rw [List.length_append, List.length_singleton]; omega) (by rw [List.length_append, List.length_append, List.length_singleton]; omega)
        rw [List.append_assoc, List.singleton_append] at h
        exact h
theorem srt_len {m : Nat} {es : Ed} (hv : Valid m es) {b : Nat} (hp : plainF m (rowsOf m (dirs es b)) = true) : (srt m (dirs es b)).length = m :=
  (plain_eq hv.le (dirs_inR hv.inR b) 6 (by have := hv.le; omega)).mpr hp
theorem impl_PlainOrder_no {n o : Int} {ys : List S33} (h : Ev (fun k => impl_PlainIn.f k n ys o) false) : Ev (fun k => impl_PlainOrder.f k n ys o) ([], false) := by
  unfold impl_PlainOrder.f; exact Ev.bind h (by simpa using Ev.now _)
theorem spec_PlainOrder_no {n o : Int} {ys : List S33} (h : Ev (fun k => spec_PlainIn.f k n ys o) false) : Ev (fun k => spec_PlainOrder.f k n ys o) ([], false) := by
  unfold spec_PlainOrder.f; simp only [Option.bind_some]; exact Ev.bind h (by simpa using Ev.now _)
theorem impl_PlainOrder_ev {m : Nat} {es : Ed} (hv : Valid m es) {b : Nat} (hb : b < 2 ^ es.length) (hp : plainF m (rowsOf m (dirs es b)) = true) : Ev (fun k => impl_PlainOrder.f k (m : Int) (toS es) (b : Int)) (toI (srt m (dirs es b)), true) := by
  have h := impl_PlainIn_ev hv hb
  rw [hp] at h
  unfold impl_PlainOrder.f
  refine Ev.bind h ?_
  simp only [if_true]
  exact Ev.bind (sorted_ev hv hb) (Ev.now _)
theorem spec_PlainOrder_ev {m : Nat} {es : Ed} (hv : Valid m es) {b : Nat} (hb : b < 2 ^ es.length) (hp : plainF m (rowsOf m (dirs es b)) = true) : Ev (fun k => spec_PlainOrder.f k (m : Int) (toS es) (b : Int)) (toI (srt m (dirs es b)), true) := by
  have h5 := hv.le
  have h := spec_PlainIn_ev hv hb
  rw [hp] at h
  have h0 := Nat.two_pow_pos m
  have hf : 2 ^ m ≤ 32 := Nat.pow_le_pow_right (n := 2) (j := 5) (by omega) h5
  have hw : wrap64 (((2 ^ m : Nat) : Int) - 1) = ((2 ^ m - 1 : Nat) : Int) := by
    generalize 2 ^ m = p at *
    rw [wrap_id (by omega) (by omega)]; omega
  have a0 : andn (2 ^ m - 1) 0 = 2 ^ m - 1 := by apply Nat.eq_of_testBit_eq; intro i; rw [andn_bit]; simp
  unfold spec_PlainOrder.f
  simp only [Option.bind_some]
  refine Ev.bind h ?_
  simp only [if_true, if_pos (show 0 ≤ (m : Int) by omega), shl_nat (show m ≤ 61 by omega), hw]
  have hk := po_l0 hv hb 6 0 h0 (by have : pc5 0 = 0 := rfl; omega) [] rfl (by rw [List.nil_append]; exact srt_len hv hp)
  rw [a0, List.nil_append] at hk
  exact hk
theorem same_PlainOrder (n : Int) (ys : List S33) (o : Int) (hl : ys.length < 2 ^ 62) : ∃ r : List Int × Bool, Ev (fun k => spec_PlainOrder.f k n ys o) r ∧ Ev (fun k => impl_PlainOrder.f k n ys o) r ∧ r.1.length ≤ 1000 := by
  cases hw : wIn n ys o with
  | false => exact ⟨_, spec_PlainOrder_no (spec_PlainIn_no hl hw), impl_PlainOrder_no (impl_PlainIn_no hl hw), by simp⟩
  | true =>
    obtain ⟨m, es, b, rfl, rfl, hv, rfl, hb⟩ := wIn_valid hw
    cases hp : plainF m (rowsOf m (dirs es b)) with
    | false =>
      have h1 := impl_PlainIn_ev hv hb
      have h2 := spec_PlainIn_ev hv hb
      rw [hp] at h1 h2
      exact ⟨_, spec_PlainOrder_no h2, impl_PlainOrder_no h1, by simp⟩
    | true => exact ⟨_, spec_PlainOrder_ev hv hb hp, impl_PlainOrder_ev hv hb hp, by rw [toI_length, srt_len hv hp]; have := hv.le; omega⟩
end Go.Proofs.Ytjhedhpippppeaa.Lk
