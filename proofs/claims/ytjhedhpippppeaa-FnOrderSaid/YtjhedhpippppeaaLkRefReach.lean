/-
  The reference's l1Ends and l1Reach.
-/
import Derived.Test.YtjhedhpippppeaaLkDirs
import Derived.Test.YtjhedhpippppeaaPx20
import Derived.Test.YtjhedhpippppeaaPx62
namespace Go.Proofs.Ytjhedhpippppeaa.Lk
open Go Go.RowKit Go.Proofs.YtjhedhpippppeaaW.PrintWords Go.Proofs.YtjhedhpippppeaaW.PrintLast Go.Proofs.YtjhedhpippppeaaW.PrintMore Go.Proofs.Ytjhedhpippppeaa.P Go.Proofs.Ytjhedhpippppeaa.Gw
set_option linter.unusedVariables false
set_option linter.unusedSimpArgs false
theorem refEnds_eq {es : Ed} {b i : Nat} (hb : b < 2 ^ 62) (hl : es.length ≤ 60) (hi : i < es.length) (n : Int) :
    spec_l1Ends.f n (toS es) (b : Int) (i : Int) = some ((((dirs es b).getD i (0, 0)).1 : Int), (((dirs es b).getD i (0, 0)).2 : Int)) := by
  unfold spec_l1Ends.f
  rw [if_pos (by omega), if_pos (by rw [toS_length]; omega), rd_toS, dirs_getD hi]
  cases ht : b.testBit i with
  | true => rw [if_pos ((bit_one hb (by omega)).mpr ht)]; rfl
  | false => rw [if_neg (by rw [bit_one hb (by omega), ht]; simp)]; rfl
theorem refReach_l1 {m : Nat} {es : Ed} (hv : Valid m es) {b : Nat} (hb : b < 2 ^ es.length) {r : Nat} (j : Nat) (s : Nat) (hs : s < 32) : ∀ d i : Nat, i + d = es.length →
    Ev (fun k => spec_l1Reach.l0 k (b : Int) ((lRound (dirs es b) s : Nat) : Int) ((j + 1 : Nat) : Int) (m : Int) (toS es)) (r : Int) → j ≤ 100 →
    Ev (fun k => spec_l1Reach.l1 k (b : Int) ((((dirs es b).take i).foldl lstep s : Nat) : Int) (j : Int) (i : Int) (m : Int) (toS es)) (r : Int) := by
  have hD := dirs_length es b
  have hR := dirs_inR hv.inR b
  have h10 := hv.len
  have hp := pow_le hv.len
  have h5 := hv.le
  intro d
  induction d with
  | zero =>
    intro i hi h hj
    refine Ev.step (fun k => ?_) h
    simp only [spec_l1Reach.l1]
    rw [if_neg (by rw [toS_length]; omega), wrap_id (by omega) (by omega), List.take_of_length_le (by omega)]
    simp [lRound]
  | succ d ih =>
    intro i hi h hj
    have hk := ih (i + 1) (by omega) h hj
    refine Ev.step (fun k => ?_) hk
    have hlt : ((dirs es b).take i).foldl lstep s < 32 := by
      have := lRound_lt (n := 5) ((dirs es b).take i) (fun e he => by have := take_inR hR i e he; omega) s hs
      exact this
    have he := hR _ (getD_mem (ds := dirs es b) (i := i) (by omega))
    have h1 : ((dirs es b).getD i (0, 0)).1 ≤ 64 := by omega
    simp only [spec_l1Reach.l1]
    rw [if_pos (by rw [toS_length]; omega), refEnds_eq (by omega) (by omega) (by omega), wrap_id (by omega) (by omega)]
    simp only [Option.bind_some]
    rw [if_pos (by omega), take_snoc (by omega), List.foldl_append]
    simp only [List.foldl_cons, List.foldl_nil]
    generalize ((dirs es b).take i).foldl lstep s = q at hlt
    unfold lstep
    cases ht : q.testBit ((dirs es b).getD i (0, 0)).1 with
    | true =>
      rw [if_pos ((bit_one (by omega) h1).mpr ht), if_pos (by omega), shl_nat (by omega), or_nat (by omega) (small (n := 5) (by omega) (Nat.pow_lt_pow_right (by omega) (by omega)))]
      simp
    | false => rw [if_neg (by rw [bit_one (by omega) h1, ht]; simp)]; simp
theorem refReach_l0 {m : Nat} {es : Ed} (hv : Valid m es) {b : Nat} (hb : b < 2 ^ es.length) : ∀ d j : Nat, j + d = m → ∀ s : Nat, s < 32 →
    Ev (fun k => spec_l1Reach.l0 k (b : Int) (s : Int) (j : Int) (m : Int) (toS es)) ((lReach d (dirs es b) s : Nat) : Int) := by
  have h5 := hv.le
  have hR := dirs_inR hv.inR b
  intro d
  induction d with
  | zero =>
    intro j hj s hs
    refine Ev.step (f := fun _ => some (s : Int)) (fun k => ?_) (Ev.now _)
    simp only [spec_l1Reach.l0]; rw [if_neg (by omega)]
  | succ d ih =>
    intro j hj s hs
    have hlt : lRound (dirs es b) s < 32 := lRound_lt (n := 5) (dirs es b) (fun e he => by have := hR e he; omega) s hs
    have h1 := refReach_l1 hv hb j s hs es.length 0 (by omega) (ih (j + 1) (by omega) _ hlt) (by omega)
    refine Ev.step (fun k => ?_) h1
    simp only [spec_l1Reach.l0]; rw [if_pos (by omega)]; simp
theorem refReach_ev {m : Nat} {es : Ed} (hv : Valid m es) {b : Nat} (hb : b < 2 ^ es.length) {v : Nat} (hvm : v < m) :
    Ev (fun k => spec_l1Reach.f k (m : Int) (toS es) (b : Int) ((2 ^ v : Nat) : Int)) ((close (rowsOf m (dirs es b)) (2 ^ v) : Nat) : Int) := by
  have h := refReach_l0 hv hb m 0 (by omega) (2 ^ v) (pow5 hv.le (Nat.pow_lt_pow_right (by omega) hvm))
  rw [lReach_eq hv.le (dirs_inR hv.inR b) hvm] at h
  unfold spec_l1Reach.f; exact h
end Go.Proofs.Ytjhedhpippppeaa.Lk
