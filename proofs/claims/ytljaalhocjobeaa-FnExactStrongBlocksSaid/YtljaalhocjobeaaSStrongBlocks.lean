/-
  StrongBlocks of the program and of the reference tell the same, for every graph and number.
-/
import Derived.Test.YtljaalhocjobeaaLkBlocks
import Derived.Test.YtljaalhocjobeaaLkRefBlock
import Derived.Test.YtljaalhocjobeaaPx64
import Derived.Test.YtljaalhocjobeaaPx63
namespace Go.Proofs.Ytljaalhocjobeaa.Lk
open Go Go.RowKit Go.Proofs.YtljaalhocjobeaaW.PrintWords Go.Proofs.YtljaalhocjobeaaW.PrintLast Go.Proofs.YtljaalhocjobeaaW.PrintMore Go.Proofs.Ytljaalhocjobeaa.P Go.Proofs.Ytljaalhocjobeaa.Gw
set_option linter.unusedVariables false
set_option linter.unusedSimpArgs false
theorem lenSB {m : Nat} {es : Ed} (hv : Valid m es) : (toS es).length < 2 ^ 62 := by rw [toS_length]; have := hv.len; omega
theorem refBlocks_len (f : Nat → Nat) : ∀ k, (refBlocks f k).length ≤ k
  | 0 => by simp [refBlocks]
  | k + 1 => by
      have := refBlocks_len f k
      rw [refBlocks]; cases (f k &&& (2 ^ k - 1)) == 0 <;> simp <;> omega
theorem refSB_l {m : Nat} {es : Ed} (hv : Valid m es) {b : Nat} (hb : b < 2 ^ es.length) : ∀ d v : Nat, v + d = m →
    Ev (fun k => spec_StrongBlocks.l0 k (b : Int) (toI (refBlocks (blk m (dirs es b)) v)) (v : Int) (m : Int) (toS es)) (toI (blocksF m (dirs es b)), true) := by
  have h5 := hv.le
  have hR := dirs_inR hv.inR b
  intro d
  induction d with
  | zero =>
    intro v hvm
    obtain rfl : v = m := by omega
    have hq := blocks_ref h5 hR v (Nat.le_refl v)
    refine Ev.step (f := fun _ => some (toI (blocksF v (dirs es b)), true)) (fun k => ?_) (Ev.now _)
    simp only [spec_StrongBlocks.l0]
    rw [if_neg (by omega), ← hq]; rfl
  | succ d ih =>
    intro v hvm
    have hk := ih (v + 1) (by omega)
    have hlen := refBlocks_len (blk m (dirs es b)) v
    have hw : wrap64 ((v : Int) + 1) = ((v + 1 : Nat) : Int) := by rw [wrap_id (by omega) (by omega)]; simp
    have hblk := pow5 h5 (blk_lt h5 hR (show v < m by omega))
    have hpv : 2 ^ v ≤ 32 := Nat.pow_le_pow_right (n := 2) (j := 5) (by omega) (by omega)
    have hp0 := Nat.two_pow_pos v
    have hw2 : wrap64 (((2 ^ v : Nat) : Int) - 1) = ((2 ^ v - 1 : Nat) : Int) := by
      generalize 2 ^ v = p at *
      rw [wrap_id (by omega) (by omega)]; omega
    refine Ev.step (fun k => rfl) ?_
    simp only [spec_StrongBlocks.l0, if_pos (show (v : Int) < (m : Int) by omega)]
    refine Ev.bind (refBlock_ev hv hb (by omega)) ?_
    simp only [if_pos (show 0 ≤ (v : Int) by omega), shl_nat (show v ≤ 61 by omega), hw2, hw]
    rw [refBlocks] at hk
    have hand : Go.bits .and .i64 ((blk m (dirs es b) v : Nat) : Int) ((2 ^ v - 1 : Nat) : Int) = ((blk m (dirs es b) v &&& (2 ^ v - 1) : Nat) : Int) := and_nat (by omega) (by omega)
    simp only [hand]
    by_cases h0 : blk m (dirs es b) v &&& (2 ^ v - 1) = 0
    · rw [h0] at hk
      simp only [h0, if_pos (show ((0 : Nat) : Int) = 0 by omega), if_pos (show (toI (refBlocks (blk m (dirs es b)) v)).length < 17592186044416 by rw [toI_length]; omega), toI_snoc]
      simpa using hk
    · have : (blk m (dirs es b) v &&& (2 ^ v - 1) == 0) = false := by simpa using h0
      rw [this] at hk
      simp only [if_neg (show ¬ ((blk m (dirs es b) v &&& (2 ^ v - 1) : Nat) : Int) = 0 by omega)]
      simpa using hk
theorem blocksF_len {m : Nat} {es : Ed} (hv : Valid m es) (b : Nat) : (blocksF m (dirs es b)).length ≤ m := by
  rw [blocksF, blocks_ref hv.le (dirs_inR hv.inR b) m (Nat.le_refl m)]; exact refBlocks_len _ m
theorem impl_StrongBlocks_no {n o : Int} {ys : List S53} (hl : ys.length < 2 ^ 62) (hw : wIn n ys o = false) : Ev (fun k => impl_StrongBlocks.f k n ys o) ([], false) := by
  unfold impl_StrongBlocks.f; exact Ev.bind (impl_wayIn hl) (by simpa [hw] using Ev.now _)
theorem spec_StrongBlocks_no {n o : Int} {ys : List S53} (hl : ys.length < 2 ^ 62) (hw : wIn n ys o = false) : Ev (fun k => spec_StrongBlocks.f k n ys o) ([], false) := by
  unfold spec_StrongBlocks.f; simp only [Option.bind_some]; exact Ev.bind (spec_wayIn hl) (by simpa [hw] using Ev.now _)
theorem impl_StrongBlocks_ev {m : Nat} {es : Ed} (hv : Valid m es) {b : Nat} (hb : b < 2 ^ es.length) : Ev (fun k => impl_StrongBlocks.f k (m : Int) (toS es) (b : Int)) (toI (blocksF m (dirs es b)), true) := by
  unfold impl_StrongBlocks.f
  refine Ev.bind (impl_wayIn (lenSB hv)) ?_
  rw [wIn_iff hv, decide_eq_true hb]
  simp only [if_true]
  exact Ev.bind (blocksOf_ev hv hb) (Ev.now _)
theorem spec_StrongBlocks_ev {m : Nat} {es : Ed} (hv : Valid m es) {b : Nat} (hb : b < 2 ^ es.length) : Ev (fun k => spec_StrongBlocks.f k (m : Int) (toS es) (b : Int)) (toI (blocksF m (dirs es b)), true) := by
  unfold spec_StrongBlocks.f
  simp only [Option.bind_some]
  refine Ev.bind (spec_wayIn (lenSB hv)) ?_
  rw [wIn_iff hv, decide_eq_true hb]
  simp only [if_true]
  exact refSB_l hv hb m 0 (by omega)
theorem same_StrongBlocks (n : Int) (ys : List S53) (o : Int) (hl : ys.length < 2 ^ 62) : ∃ r : List Int × Bool, Ev (fun k => spec_StrongBlocks.f k n ys o) r ∧ Ev (fun k => impl_StrongBlocks.f k n ys o) r ∧ r.1.length ≤ 1000 := by
  cases hw : wIn n ys o with
  | false => exact ⟨_, spec_StrongBlocks_no hl hw, impl_StrongBlocks_no hl hw, by simp⟩
  | true =>
    obtain ⟨m, es, b, rfl, rfl, hv, rfl, hb⟩ := wIn_valid hw
    exact ⟨_, spec_StrongBlocks_ev hv hb, impl_StrongBlocks_ev hv hb, by rw [toI_length]; have := blocksF_len hv b; have := hv.le; omega⟩
end Go.Proofs.Ytljaalhocjobeaa.Lk
