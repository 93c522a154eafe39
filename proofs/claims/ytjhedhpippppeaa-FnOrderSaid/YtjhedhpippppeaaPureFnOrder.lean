/-
  FnOrder answers true: in the order each edge leads on.
-/
import Derived.Test.YtjhedhpippppeaaLkDraw2
import Derived.Test.YtjhedhpippppeaaLkOrd
import Derived.Test.YtjhedhpippppeaaLkSame
import Derived.Test.YtjhedhpippppeaaPx25
import Derived.Test.YtjhedhpippppeaaPx10
namespace Go.Proofs.Ytjhedhpippppeaa.Pure
open Go Go.RowKit Go.Proofs.YtjhedhpippppeaaW.PrintWords Go.Proofs.YtjhedhpippppeaaW.PrintLast Go.Proofs.YtjhedhpippppeaaW.PrintMore Go.Proofs.Ytjhedhpippppeaa.P Go.Proofs.Ytjhedhpippppeaa.Gw Go.Proofs.Ytjhedhpippppeaa.Lk
set_option linter.unusedVariables false
set_option linter.unusedSimpArgs false
theorem rd_nat (l : List Int) (i : Nat) : rd l (i : Int) = l.getD i 0 := by unfold rd; rw [Int.toNat_natCast]
theorem order_l1 {m : Nat} {es : Ed} (hv : Valid m es) {b : Nat} (hb : b < 2 ^ es.length) (out : List Int) (ho : out.length = m) {pl : List Int} (hp : pl.length = m)
    (key : ∀ e ∈ dirs es b, pl.getD e.1 0 < pl.getD e.2 0) : ∀ d i : Nat, i + d = es.length →
    Ev (fun k => laws_FnOrder.l1 k (b : Int) out pl (i : Int) (m : Int) (toS es)) true := by
  have h10 := hv.len
  have b62 : b < 2 ^ 62 := by have hq := pow_le hv.len; omega
  clear hb
  have hD := dirs_length es b
  intro d
  induction d with
  | zero =>
    intro i hi
    refine Ev.step (f := fun _ => some true) (fun k => ?_) (Ev.now _)
    simp only [laws_FnOrder.l1]
    rw [if_neg (by rw [toS_length]; omega), ho]; simp
  | succ d ih =>
    intro i hi
    have hk := ih (i + 1) (by omega)
    have hil : i < es.length := by omega
    have hw1 : wrap64 ((i : Int) + 1) = ((i + 1 : Nat) : Int) := by rw [wrap_id (by omega) (by omega)]; simp
    have hd := dirs_getD (es := es) (b := b) hil
    have hm := getD_mem (ds := dirs es b) (i := i) (by omega)
    have hkey := key _ hm
    rw [hd] at hkey
    have hr := hv.inR _ (getD_mem (ds := es) hil)
    have g0 : (i : Int) < ((toS es).length : Int) := by rw [toS_length]; omega
    have hbit : (Go.bits .and .i64 (shr .i64 (b : Int) (i : Int)) 1 == 0) = !b.testBit i := by
      have h1 := bit_one b62 (show i ≤ 64 by omega)
      have h2 := bit_zero b62 (show i ≤ 64 by omega)
      cases ht : b.testBit i with
      | true =>
        rw [ht] at h2
        have hne : ¬ (Go.bits .and .i64 (shr .i64 (b : Int) (i : Int)) 1 = 0) := fun h => absurd (h2.mp h) (by simp)
        simpa using hne
      | false => rw [ht] at h2; rw [beq_iff_eq.mpr (h2.mpr rfl)]; rfl
    clear hw1
    have hw1 : wrap64 ((i : Int) + 1) = ((i + 1 : Nat) : Int) := by rw [wrap_id (by omega) (by omega)]; simp
    refine Ev.step (fun k => ?_) hk
    simp only [laws_FnOrder.l1]
    rw [if_pos g0, if_pos (Int.natCast_nonneg _), rd_toS, hbit, hw1]
    generalize es.getD i (0, 0) = e at *
    clear hw1 hk ih hm hd
    have q1 : (e.1 : Int) < (pl.length : Int) := by omega
    have q2 : (e.2 : Int) < (pl.length : Int) := by omega
    simp only [if_pos (Int.natCast_nonneg e.1), if_pos (Int.natCast_nonneg e.2), if_pos q1, if_pos q2, rd_nat]
    cases ht : b.testBit i with
    | true =>
      rw [ht] at hkey
      simp only [cond_true] at hkey
      rw [decide_eq_false (by omega)]; simp
    | false =>
      rw [ht] at hkey
      simp only [cond_false] at hkey
      rw [decide_eq_true hkey]; simp
theorem order_l0 {m : Nat} {es : Ed} (hv : Valid m es) {b : Nat} (hb : b < 2 ^ es.length) {L : List Nat} (hL : L.length = m) (hlt : ∀ j, j < m → L.getD j 0 < m) (hinj : ∀ i j, i < j → j < m → L.getD i 0 ≠ L.getD j 0)
    (key : ∀ pl : List Int, pl.length = m → (∀ j, j < m → pl.getD (L.getD j 0) 0 = (j : Int)) → ∀ e ∈ dirs es b, pl.getD e.1 0 < pl.getD e.2 0) : ∀ d i : Nat, i + d = m → ∀ pl : List Int, pl.length = m → (∀ j, j < i → pl.getD (L.getD j 0) 0 = (j : Int)) →
    Ev (fun k => laws_FnOrder.l0 k (b : Int) (toI L) pl (i : Int) (m : Int) (toS es)) true := by
  have h5 := hv.le
  have hI : (toI L).length = m := by rw [toI_length, hL]
  intro d
  induction d with
  | zero =>
    intro i hi pl hp hpl
    obtain rfl : i = m := by omega
    refine Ev.step (fun k => ?_) (order_l1 hv hb (toI L) hI hp (key pl hp hpl) es.length 0 (by omega))
    simp only [laws_FnOrder.l0]
    rw [if_neg (by omega)]; rfl
  | succ d ih =>
    intro i hi pl hp hpl
    have hil : i < m := by omega
    have hk := ih (i + 1) (by omega) (pl.set (L.getD i 0) (i : Int)) (by rw [List.length_set]; exact hp) (fun j hj => by
      by_cases h : j = i
      · subst h
        rw [List.getD_eq_getElem?_getD, List.getElem?_set_self (by rw [hp]; exact hlt j hil)]; rfl
      · have hne := hinj j i (by omega) hil
        rw [List.getD_eq_getElem?_getD, List.getElem?_set_ne (Ne.symm hne), ← List.getD_eq_getElem?_getD]
        exact hpl j (by omega))
    have hrd : rd (toI L) (i : Int) = ((L.getD i 0 : Nat) : Int) := by
      rw [rd_nat, toI, List.getD_eq_getElem?_getD, List.getElem?_map, List.getD_eq_getElem?_getD]; cases L[i]? <;> rfl
    have hvl := hlt i hil
    have hw1 : wrap64 ((i : Int) + 1) = ((i + 1 : Nat) : Int) := by rw [wrap_id (by omega) (by omega)]; simp
    have g1 : (i : Int) < ((toI L).length : Int) := by clear hw1; rw [hI]; omega
    have g2 : ((L.getD i 0 : Nat) : Int) < (pl.length : Int) := by clear hw1; rw [hp]; omega
    refine Ev.step (fun k => ?_) hk
    simp only [laws_FnOrder.l0]
    rw [if_pos g1, if_pos (Int.natCast_nonneg _), hrd, if_pos (Int.natCast_nonneg _), if_pos g2, Int.toNat_natCast, hw1]
theorem order_key {m : Nat} {es : Ed} (hv : Valid m es) {b : Nat} (hp : plainF m (rowsOf m (dirs es b)) = true) (pl : List Int) (hl : ∀ j, j < m → pl.getD ((srt m (dirs es b)).getD j 0) 0 = (j : Int)) : ∀ e ∈ dirs es b, pl.getD e.1 0 < pl.getD e.2 0 := by
  have h5 := hv.le
  have hR := dirs_inR hv.inR b
  have hr : Runs m (rowsOf m (rev (dirs es b))) (srt m (dirs es b)) 0 := sort_runs _ _ _ _
  have hlen := srt_len hv hp
  generalize srt m (dirs es b) = L at *
  intro e he
  have h2 := hR e he
  have p0 : pc5 0 = 0 := rfl
  rcases hr.all h5 (Nat.two_pow_pos m) (by rw [p0, hlen]; omega) e.2 h2.2 with h | ⟨j, hj, hje⟩
  · simp at h
  · rcases hr.pred j hj e.1 (by rw [hje]; exact (rowsOf_bit hR.rev e.2 e.1).mpr (mem_rev.mpr he)) with h | ⟨i, hi, hie⟩
    · simp at h
    · have a1 := hl i (by omega)
      have a2 := hl j (by omega)
      rw [hie] at a1; rw [hje] at a2
      rw [a1, a2]; omega
theorem FnOrder : laws_FnOrder.Pure := by
  intro l0 hm hb hw
  apply Ev.rounds
  simp only [laws_FnOrder.f]
  by_cases hbig : (l0.length : Int) > 1048576
  · simp only [if_pos hbig]; exact Ev.now true
  simp only [if_neg hbig]
  obtain ⟨m, xs, o, h1, h5, hl, he⟩ := two_ev (by omega) hw
  have hd : Ev (fun k => spec_DrawPlainOrder.f k l0) ((m : Int), xs, o) := by unfold spec_DrawPlainOrder.f; exact Ev.bind he (Ev.now _)
  refine Ev.bind hd ?_
  have no : Ev (fun k => impl_PlainOrder.f k (m : Int) xs o) ([], false) → Ev (fun k => spec_PlainOrder.f k (m : Int) xs o) ([], false) → Ev (fun k => (impl_PlainOrder.f k (m : Int) xs o).bind fun bt271 => ((spec_PlainOrder.f k (m : Int) xs o).bind fun bt275 => (if (bt271.2 != bt275.2) = true then (laws_FnOrder.j0 k o bt271.1 bt271.2 bt275.1 bt275.2 true (m : Int) xs) else ((laws_sameInts.f k bt271.1 bt275.1).bind fun t279 => (if t279 = true then (laws_FnOrder.j0 k o bt271.1 bt271.2 bt275.1 bt275.2 (!bt271.2) (m : Int) xs) else (laws_FnOrder.j0 k o bt271.1 bt271.2 bt275.1 bt275.2 true (m : Int) xs)))))) true := by
    intro a1 a2
    refine Ev.bind a1 (Ev.bind a2 ?_)
    simp only [bne_self_eq_false, Bool.false_eq_true, if_false, Bool.not_false]
    refine Ev.bind (sameInts_ev (by simp)) ?_
    simp only [if_true]
    refine Ev.step (fun k => by simp only [laws_FnOrder.j0]; rfl) ?_
    simp only [if_true, beq_self_eq_true]
    exact Ev.bind (sameInts_ev (by simp)) (Ev.now _)
  cases hin : wIn (m : Int) xs o with
  | false => exact no (impl_PlainOrder_no (impl_PlainIn_no hl hin)) (spec_PlainOrder_no (spec_PlainIn_no hl hin))
  | true =>
    obtain ⟨m', es, b, hmm, rfl, hv, rfl, hb'⟩ := wIn_valid hin
    obtain rfl : m = m' := by omega
    cases hp : plainF m (rowsOf m (dirs es b)) with
    | false =>
      have a1 := impl_PlainIn_ev hv hb'
      have a2 := spec_PlainIn_ev hv hb'
      rw [hp] at a1 a2
      exact no (impl_PlainOrder_no a1) (spec_PlainOrder_no a2)
    | true =>
      have hlen := srt_len hv hp
      have hr : Runs m (rowsOf m (rev (dirs es b))) (srt m (dirs es b)) 0 := sort_runs _ _ _ _
      refine Ev.bind (impl_PlainOrder_ev hv hb' hp) (Ev.bind (spec_PlainOrder_ev hv hb' hp) ?_)
      simp only [bne_self_eq_false, Bool.false_eq_true, if_false, Bool.not_true]
      refine Ev.bind (sameInts_ev (by rw [toI_length, hlen]; omega)) ?_
      simp only [if_true]
      refine Ev.step (fun k => by simp only [laws_FnOrder.j0]; rfl) ?_
      simp only [Bool.false_eq_true, if_false, if_pos (Int.natCast_nonneg m), Int.toNat_natCast, if_pos (show m ≤ 35184372088832 by omega)]
      exact order_l0 hv hb' hlen (fun j hj => (hr.lt j (by omega)).1) (fun i j hij hj => hr.inj i j hij (by omega)) (fun pl _ h => order_key hv hp pl h) m 0 (by omega) _ (by simp) (fun j hj => by omega)
end Go.Proofs.Ytjhedhpippppeaa.Pure
