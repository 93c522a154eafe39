/-
  The program's blocksOf and isFull.
-/
import Derived.Test.YtljaalhocjobeaaLkNext
import Derived.Test.YtljaalhocjobeaaLkTurn
import Derived.Test.YtljaalhocjobeaaLkReach
import Derived.Test.YtljaalhocjobeaaPx36
namespace Go.Proofs.Ytljaalhocjobeaa.Lk
open Go Go.RowKit Go.Proofs.YtljaalhocjobeaaW.PrintWords Go.Proofs.YtljaalhocjobeaaW.PrintLast Go.Proofs.YtljaalhocjobeaaW.PrintMore Go.Proofs.Ytljaalhocjobeaa.P Go.Proofs.Ytljaalhocjobeaa.Gw
set_option linter.unusedVariables false
set_option linter.unusedSimpArgs false
theorem blocks_l0 {m : Nat} (h5 : m ≤ 5) {ds : Ed} (hd : InR m ds) : ∀ d v : Nat, v + d = m →
    Ev (fun k => impl_blocksOf.l0 k (toI (rowsOf m ds)) (toI (rowsOf m (rev ds))) (toI (blocksUpto (blk m ds) v).1) ((blocksUpto (blk m ds) v).2 : Int) (m : Int) (v : Int)) (toI (blocksF m ds)) := by
  have hlen : ∀ v, (blocksUpto (blk m ds) v).1.length ≤ v := by
    intro v; induction v with
    | zero => simp [blocksUpto]
    | succ v ih =>
      rw [blocksUpto, blkStep]
      cases (blocksUpto (blk m ds) v).2.testBit v
      · simp; omega
      · simp only [cond_true]; omega
  have hlt : ∀ v, v ≤ m → (blocksUpto (blk m ds) v).2 < 32 := by
    intro v hv
    apply lt_two_pow_of_bits (n := 5)
    intro b hb
    obtain ⟨w, h1, h2⟩ := seen_bit v b hb
    have := bit_lt (blk_lt h5 hd (show w < m by omega)) h2
    omega
  intro d
  induction d with
  | zero =>
    intro v hv
    obtain rfl : v = m := by omega
    refine Ev.step (f := fun _ => some (toI (blocksF v ds))) (fun k => ?_) (Ev.now _)
    simp only [impl_blocksOf.l0]; rw [if_neg (by omega)]; rfl
  | succ d ih =>
    intro v hv
    have hk := ih (v + 1) (by omega)
    have h1 := hlt v (by omega)
    have h2 := hlen v
    have hw : wrap64 ((v : Int) + 1) = ((v + 1 : Nat) : Int) := by rw [wrap_id (by omega) (by omega)]; simp
    rw [blocksUpto, blkStep] at hk
    cases ht : (blocksUpto (blk m ds) v).2.testBit v with
    | true =>
      rw [ht] at hk; simp only [cond_true] at hk
      refine Ev.step (fun k => ?_) hk
      simp only [impl_blocksOf.l0]
      rw [if_pos (by omega), if_pos (by omega), if_neg (by rw [bit_zero (by omega) (by omega), ht]; simp), hw]
    | false =>
      rw [ht] at hk; simp only [cond_false] at hk
      have hc1 := pow5 h5 (close_lt_n h5 hd (show v < m by omega))
      have hc2 := pow5 h5 (close_lt_n h5 hd.rev (show v < m by omega))
      have hb := pow5 h5 (blk_lt h5 hd (show v < m by omega))
      refine Ev.step (fun k => rfl) ?_
      simp only [impl_blocksOf.l0, if_pos (show (v : Int) < (m : Int) by omega), if_pos (show 0 ≤ (v : Int) by omega), if_pos ((bit_zero (show (blocksUpto (blk m ds) v).2 < 2 ^ 62 by omega) (show v ≤ 64 by omega)).mpr ht)]
      refine Ev.bind (reachOf_ev h5 hd (by omega)) (Ev.bind (reachOf_ev h5 hd.rev (by omega)) ?_)
      simp only [if_pos (show (toI (blocksUpto (blk m ds) v).1).length < 17592186044416 by rw [toI_length]; omega), and_nat (show close (rowsOf m ds) (2 ^ v) < 2 ^ 62 by omega) (show close (rowsOf m (rev ds)) (2 ^ v) < 2 ^ 62 by omega), hw]
      have hbk : close (rowsOf m ds) (2 ^ v) &&& close (rowsOf m (rev ds)) (2 ^ v) = blk m ds v := rfl
      simp only [hbk, toI_snoc, or_nat (show (blocksUpto (blk m ds) v).2 < 2 ^ 62 by omega) (show blk m ds v < 2 ^ 62 by omega)]
      exact hk
theorem blocksOf_ev {m : Nat} {es : Ed} (hv : Valid m es) {b : Nat} (hb : b < 2 ^ es.length) :
    Ev (fun k => impl_blocksOf.f k (m : Int) (toS es) (b : Int)) (toI (blocksF m (dirs es b))) := by
  unfold impl_blocksOf.f
  refine Ev.bind (nextOf_ev hv hb) ?_
  simp only [turned_eq hv hb, Option.bind_some]
  have hn := nextOf_ev hv (b := tn es.length b) tn_lt
  rw [dirs_tn es b hb] at hn
  refine Ev.bind hn ?_
  exact blocks_l0 hv.le (dirs_inR hv.inR b) m 0 (by omega)
/-- strong: one block -/
def strongF (m : Nat) (ds : Ed) : Bool := blk m ds 0 == 2 ^ m - 1
theorem oneBlock {m : Nat} {es : Ed} (hv : Valid m es) (b : Nat) : (((toI (blocksF m (dirs es b))).length : Int) == 1) = strongF m (dirs es b) := by
  have h := one_block hv.le (by have := hv.pos; omega) (dirs_inR hv.inR b)
  rw [Bool.eq_iff_iff, beq_iff_eq, toI_length, strongF, beq_iff_eq, ← h]; omega
end Go.Proofs.Ytljaalhocjobeaa.Lk
