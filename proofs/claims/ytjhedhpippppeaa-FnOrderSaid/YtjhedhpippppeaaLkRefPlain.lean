/-
  The reference's l2Plain.
-/
import Derived.Test.YtjhedhpippppeaaLkRefReach
import Derived.Test.YtjhedhpippppeaaPx21
namespace Go.Proofs.Ytjhedhpippppeaa.Lk
open Go Go.RowKit Go.Proofs.YtjhedhpippppeaaW.PrintWords Go.Proofs.YtjhedhpippppeaaW.PrintLast Go.Proofs.YtjhedhpippppeaaW.PrintMore Go.Proofs.Ytjhedhpippppeaa.P Go.Proofs.Ytjhedhpippppeaa.Gw
set_option linter.unusedVariables false
set_option linter.unusedSimpArgs false
def noEdge (v s : Nat) (e : Nat × Nat) : Bool := !(e.1 == v && s.testBit e.2)
theorem free_all {m : Nat} {ds : Ed} (hd : InR m ds) (s v : Nat) : ds.all (noEdge v s) = (((rowsOf m ds).getD v 0 &&& s) == 0) := by
  rw [Bool.eq_iff_iff, List.all_eq_true, beq_iff_eq, row_free hd]
  constructor
  · intro h e he h1
    have := h e he
    simp only [noEdge, h1, beq_self_eq_true, Bool.true_and, Bool.not_eq_true'] at this
    exact this
  · intro h e he
    unfold noEdge
    by_cases h1 : e.1 = v
    · simp [h1, h e he h1]
    · simp [h1]
theorem l2_l2 {m : Nat} {es : Ed} (hv : Valid m es) {b : Nat} (hb : b < 2 ^ es.length) {s : Nat} (hs : s < 32) (j : Int) {v : Nat} (hvm : v < m) {r : Bool} : ∀ d i : Nat, i + d = es.length → ∀ fr : Bool,
    Ev (fun k => if (fr && ((dirs es b).drop i).all (noEdge v s)) = true then (if 0 ≤ (v : Int) then spec_l2Plain.l1 k (b : Int) (Go.bits .andNot .i64 (s : Int) (shl .i64 1 (v : Int))) j (wrap64 ((v : Int) + 1)) (m : Int) (toS es) else none) else spec_l2Plain.l1 k (b : Int) (s : Int) j (wrap64 ((v : Int) + 1)) (m : Int) (toS es)) r →
    Ev (fun k => spec_l2Plain.l2 k (b : Int) (s : Int) j (v : Int) fr (i : Int) (m : Int) (toS es)) r := by
  have hD := dirs_length es b
  have hR := dirs_inR hv.inR b
  have h10 := hv.len
  have hp := pow_le hv.len
  have h5 := hv.le
  intro d
  induction d with
  | zero =>
    intro i hi fr h
    rw [List.drop_eq_nil_of_le (by omega)] at h
    simp only [List.all_nil, Bool.and_true] at h
    refine Ev.step (fun k => ?_) h
    simp only [spec_l2Plain.l2]
    rw [if_neg (by rw [toS_length]; omega)]
  | succ d ih =>
    intro i hi fr h
    have b62 : b < 2 ^ 62 := by clear ih h; omega
    have l60 : es.length ≤ 60 := by clear ih h hb hp; omega
    have hil3 : i < es.length := by clear ih h hb hp; omega
    have hre := refEnds_eq (es := es) (b := b) (i := i) b62 l60 hil3 (m : Int)
    have hil2 : (i : Int) < ((toS es).length : Int) := by rw [toS_length]; exact Int.ofNat_lt.mpr hil3
    have hil : i < (dirs es b).length := by rw [hD]; exact hil3
    clear hp hb
    have hdrop : (dirs es b).drop i = (dirs es b).getD i (0, 0) :: (dirs es b).drop (i + 1) := by
      rw [List.drop_eq_getElem_cons hil, List.getD_eq_getElem?_getD, List.getElem?_eq_getElem hil]; rfl
    rw [hdrop, List.all_cons, ← Bool.and_assoc] at h
    have he := hR _ (getD_mem (ds := dirs es b) hil)
    have hk := ih (i + 1) (by omega) _ h
    clear h ih
    have hwi : wrap64 ((i : Int) + 1) = ((i + 1 : Nat) : Int) := by rw [wrap_id (by omega) (by omega)]; simp
    refine Ev.step (fun k => ?_) hk
    simp only [spec_l2Plain.l2]
    rw [if_pos hil2, hre]
    simp only [Option.bind_some, hwi]
    unfold noEdge
    clear hre hdrop
    generalize (dirs es b).getD i (0, 0) = x at *
    by_cases h1 : x.1 = v
    · rw [if_pos (by omega), if_pos (by omega)]
      cases ht : s.testBit x.2 with
      | true => rw [if_pos ((bit_one (by omega) (by omega)).mpr ht)]; simp [h1]
      | false => rw [if_neg (by rw [bit_one (by omega) (by omega), ht]; simp)]; simp
    · rw [if_neg (by omega), show (x.1 == v) = false by simpa using h1]; simp
theorem dropS_lt (rows : List Nat) (k : Nat) {s : Nat} (h : s < 32) : dropS rows k s < 32 :=
  lt_two_pow_of_bits (n := 5) fun b hb => bit_lt (n := 5) h (dropS_sub rows k s b hb)
theorem l2_l1 {m : Nat} {es : Ed} (hv : Valid m es) {b : Nat} (hb : b < 2 ^ es.length) {s : Nat} (hs : s < 32) (j : Int) {r : Bool}
    (hr : Ev (fun k => spec_l2Plain.l0 k (b : Int) ((dropS (rowsOf m (dirs es b)) m s : Nat) : Int) (wrap64 (j + 1)) (m : Int) (toS es)) r) : ∀ d v : Nat, v + d = m →
    Ev (fun k => spec_l2Plain.l1 k (b : Int) ((dropS (rowsOf m (dirs es b)) v s : Nat) : Int) j (v : Int) (m : Int) (toS es)) r := by
  have h5 := hv.le
  have hR := dirs_inR hv.inR b
  intro d
  induction d with
  | zero =>
    intro v hvm
    obtain rfl : v = m := by omega
    refine Ev.step (fun k => ?_) hr
    simp only [spec_l2Plain.l1]; rw [if_neg (by omega)]
  | succ d ih =>
    intro v hvm
    have hk := ih (v + 1) (by omega)
    have hlt := dropS_lt (rowsOf m (dirs es b)) v hs
    have hwv : wrap64 ((v : Int) + 1) = ((v + 1 : Nat) : Int) := by rw [wrap_id (by omega) (by omega)]; simp
    have p2 : 2 ^ v < 2 ^ 62 := small (n := 5) (by omega) (Nat.pow_lt_pow_right (by omega) (by omega))
    rw [dropS] at hk
    refine Ev.step (f := fun k => spec_l2Plain.l2 k (b : Int) ((dropS (rowsOf m (dirs es b)) v s : Nat) : Int) j (v : Int) true ((0 : Nat) : Int) (m : Int) (toS es)) (fun k => by
      simp only [spec_l2Plain.l1]; rw [if_pos (by omega)]; rfl) ?_
    refine l2_l2 hv hb hlt j (by omega) es.length 0 (by omega) true ?_
    rw [List.drop_zero, Bool.true_and, free_all hR, hwv]
    generalize dropS (rowsOf m (dirs es b)) v s = q at hlt hk
    unfold dropV at hk
    cases hc : ((rowsOf m (dirs es b)).getD v 0 &&& q) == 0 with
    | true =>
      rw [hc] at hk; simp only [cond_true] at hk
      simp only [if_true, if_pos (show 0 ≤ (v : Int) by omega), shl_nat (show v ≤ 61 by omega), andn_nat (show q < 2 ^ 62 by omega) p2]
      exact hk
    | false =>
      rw [hc] at hk; simp only [cond_false] at hk
      simp only [Bool.false_eq_true, if_false]; exact hk
theorem l2_l0 {m : Nat} {es : Ed} (hv : Valid m es) {b : Nat} (hb : b < 2 ^ es.length) : ∀ d j : Nat, j + d = m → ∀ s : Nat, s < 32 →
    Ev (fun k => spec_l2Plain.l0 k (b : Int) (s : Int) (j : Int) (m : Int) (toS es)) (dropN m (rowsOf m (dirs es b)) d s == 0) := by
  have h5 := hv.le
  intro d
  induction d with
  | zero =>
    intro j hj s hs
    have : ((s : Int) == 0) = (s == 0) := by rw [Bool.eq_iff_iff, beq_iff_eq, beq_iff_eq]; omega
    refine Ev.step (f := fun _ => some (s == 0)) (fun k => ?_) (Ev.now _)
    simp only [spec_l2Plain.l0]; rw [if_neg (by omega), this]
  | succ d ih =>
    intro j hj s hs
    have hk := ih (j + 1) (by omega) _ (dropS_lt (rowsOf m (dirs es b)) m hs)
    have hwj : wrap64 ((j : Int) + 1) = ((j + 1 : Nat) : Int) := by rw [wrap_id (by omega) (by omega)]; simp
    rw [← hwj] at hk
    have h := l2_l1 hv hb hs (j : Int) hk m 0 (by omega)
    refine Ev.step (fun k => ?_) h
    simp only [spec_l2Plain.l0]; rw [if_pos (by omega)]; rfl
theorem refPlain_ev {m : Nat} {es : Ed} (hv : Valid m es) {b : Nat} (hb : b < 2 ^ es.length) :
    Ev (fun k => spec_l2Plain.f k (m : Int) (toS es) (b : Int)) (plainF m (rowsOf m (dirs es b))) := by
  have h5 := hv.le
  have h0 := Nat.two_pow_pos m
  have hf : 2 ^ m - 1 < 32 := pow5 h5 (by omega)
  have h := l2_l0 hv hb m 0 (by omega) (2 ^ m - 1) hf
  have hw : wrap64 (((2 ^ m : Nat) : Int) - 1) = ((2 ^ m - 1 : Nat) : Int) := by
    generalize 2 ^ m = p at *
    rw [wrap_id (by omega) (by omega)]; omega
  refine Ev.congr (fun k => ?_) h
  unfold spec_l2Plain.f
  rw [if_pos (by omega), shl_nat (by omega), hw]; rfl
end Go.Proofs.Ytjhedhpippppeaa.Lk
