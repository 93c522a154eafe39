-- PRINTED by print.py (a twelfth state) out of the translation. Not trusted: Lean checks it.
import Derived.Test.YtjklkphhfkdkpaaPx0
namespace Go.Proofs.Ytjklkphhfkdkpaa.P
open Go.RowKit Go.Proofs.YtjklkphhfkdkpaaW.PrintWords Go.Proofs.YtjklkphhfkdkpaaW.PrintLast Go.Proofs.YtjklkphhfkdkpaaW.PrintMore
attribute [local go_sem] max2_int min2_int max_two min_two max_three min_three max_four min_four   -- for this text's walks alone
set_option linter.unusedVariables false
set_option linter.unusedSimpArgs false

/-! ### impl_pushed: function 58 -/
def impl_pushed.l0 : Nat → Int → Int → List (S37) → Int → Int → Option (Int)
  | 0, _, _, _, _, _ => none
  | k + 1, x1, x2, x10, x11, x12 => if x12 < x11 then (if 0 ≤ x12 then (if x12 < (x10.length : Int) then (if ((rd_T37 x10 x12).f0) = x2 then (impl_pushed.l0 k (Go.bits .xor .i64 x1 (shl .i64 1 x12)) x2 x10 x11 (wrap64 (x12 + 1))) else (if ((rd_T37 x10 x12).f1) = x2 then (impl_pushed.l0 k (Go.bits .xor .i64 x1 (shl .i64 1 x12)) x2 x10 x11 (wrap64 (x12 + 1))) else (impl_pushed.l0 k x1 x2 x10 x11 (wrap64 (x12 + 1))))) else (none)) else (none)) else (some x1)
def impl_pushed.f (k : Nat) (a0_0 : Int) (l0_1 : List (S37)) (a1 : Int) (a2 : Int) : Option (Int) := impl_pushed.l0 k a1 a2 l0_1 (l0_1.length : Int) 0
theorem impl_pushed.mono_l : ∀ k, (∀ y0 y1 y2 y3 y4, LeO (impl_pushed.l0 k y0 y1 y2 y3 y4) (impl_pushed.l0 (k + 1) y0 y1 y2 y3 y4))
  | 0 => fun _ _ _ _ _ r h => by simp [impl_pushed.l0] at h
  | k + 1 => by
    have ih0 := impl_pushed.mono_l k
    · intro y0 y1 y2 y3 y4
      unfold impl_pushed.l0
      repeat' first
      | (with_reducible exact ih0 _ _ _ _ _)
      | (with_reducible exact LeO.refl _)
      | (with_reducible exact LeO.none _)
      | (with_reducible refine LeO.ite ?_ ?_)
      | (with_reducible refine LeO.bind ?_ (fun _ => ?_))
      | exact ih0 _ _ _ _ _
      | exact LeO.none _
      | refine LeO.ite ?_ ?_
      | refine LeO.bind ?_ (fun _ => ?_)
theorem impl_pushed.mono : ∀ a0 a1 a2 a3 k, LeO (impl_pushed.f k a0 a1 a2 a3) (impl_pushed.f (k + 1) a0 a1 a2 a3) := by
  intro a0 a1 a2 a3 k
  have ih0 := impl_pushed.mono_l k
  unfold impl_pushed.f
  repeat' first
      | (with_reducible exact ih0 _ _ _ _ _)
      | (with_reducible exact LeO.refl _)
      | (with_reducible exact LeO.none _)
      | (with_reducible refine LeO.ite ?_ ?_)
      | (with_reducible refine LeO.bind ?_ (fun _ => ?_))
      | exact ih0 _ _ _ _ _
      | exact LeO.none _
      | refine LeO.ite ?_ ?_
      | refine LeO.bind ?_ (fun _ => ?_)
set_option maxHeartbeats 8000000 in
set_option maxRecDepth 100000 in
theorem impl_pushed.calls (k : Nat) (a0_0 : Int) (A0_1 : Option Addr) (c0_1 : Nat) (l0_1 : List (S37)) (a1 : Int) (a2 : Int) (r : Int) (w : World) (hr0_1 : Kd.C k37 w A0_1 l0_1.length l0_1) (hc0_1 : l0_1.length ≤ c0_1) (h : impl_pushed.f k a0_0 l0_1 a1 a2 = some r) :
    Calls Try.prog 58 #[.agg #[.int .i64 a0_0, .slice A0_1 l0_1.length c0_1], .int .i64 a1, .int .i64 a2] w fun e w' => e = .returned (.int .i64 r) ∧ Below w.heap.size w w' := by
  have hu25 := Try.underlying25
  have hu37 := Try.underlying37
  have HR0_1 := Aside0.mk hr0_1
  have HC0_1 := Aside0.mk hc0_1
  clear hr0_1 hc0_1
  have HB := Aside0.mk (Below.refl w.heap.size w)
  have H : (impl_pushed.l0 k a1 a2 l0_1 (l0_1.length : Int) 0) = some r := h
  clear h
  have H' := Aside0.mk H
  clear H
  go_enter Try.func58, Try.ntmps58
  go_wp2_with (first | ((with_reducible refine gate_dst (N := 3) rfl ?_); refine box_event ?hg (N := 3) ?hd (cs := #[.int .i64 a0_0, .slice A0_1 l0_1.length c0_1]) (t := 25) ?hr ?_; (case hd => rfl); (case hg => rfl); (case hr => first | (go_simp; done) | (go_simp; rfl)); intro gb748 hg w4 hbox hb; have n0_ := Aside0.mk (below_step (by repeat (first | (with_reducible first | exact HB.out | apply below_alloc | apply pw_below_drewN | apply below_drew1) | exact HB.out)) hb); have n1_ := Aside0.mk (hbox); have n2_ := Aside0.mk ((by rw [hg]; exact (below_size (by repeat (first | (with_reducible first | exact HB.out | apply below_alloc | apply pw_below_drewN | apply below_drew1) | exact HB.out))) : w.heap.size ≤ gb748)); have n3_ := Aside0.mk ((by rw [hg]; exact (below_size (by repeat (first | (with_reducible first | exact HB.out | apply below_alloc | apply pw_below_drewN | apply below_drew1) | exact HB.out))) : w.heap.size ≤ gb748)); clear HB; have HB := n0_; have BK748 := n1_; have GW748 := n2_; have GE748 := n3_; clear n0_ n1_ n2_ n3_; clear hb hbox hg; have hcz5_0 : w4.cell? ⟨gb748, 0, none⟩ = some (.int .i64 a0_0) := (blk_cell BK748.out 0).trans rfl; have hcz5_1 : w4.cell? ⟨gb748, 1, none⟩ = some (.slice A0_1 l0_1.length c0_1) := (blk_cell BK748.out 1).trans rfl; have hfz5_0 := blk_frozen BK748.out 0; have hfz5_1 := blk_frozen BK748.out 1))
  go_loopg [1, 12] k (fun kq v1 v12 w' => ∃ (x1_1 : Int) (x12_1 : Int), v1 = .int .i64 x1_1 ∧ v12 = .int .i64 x12_1 ∧ Aside0 (impl_pushed.l0 kq x1_1 a2 l0_1 (l0_1.length : Int) x12_1 = some r) ∧ Aside0 (kq ≤ k) ∧ Aside0 (w'.heap[gb748]? = some (.cells #[.int .i64 a0_0, (.slice A0_1 l0_1.length c0_1)] 25 (0, 0))) ∧ Aside0 (Below w.heap.size w w'))
  case atStart => exact ⟨(a1), (0), (by first | rfl | (simp; done) | (simp [*]; done)), (by first | rfl | (simp; done) | (simp [*]; done)), H', ⟨Nat.le_refl _⟩, ⟨by (with_reducible repeat (first | refine blk_drewN ?_ _ | refine blk_drew ?_ | refine blk_alloc ?_ _)); exact BK748.out⟩, ⟨by repeat (first | (with_reducible first | exact HB.out | apply below_alloc | apply pw_below_drewN | apply below_drew1 | refine below_set ?_ GE748.out) | exact HB.out)⟩⟩
  case round =>
    clear H'
    try clear p2
    try clear c5
    try clear hcz5_0
    try clear hcz5_1
    try clear hfz5_0
    try clear hfz5_1
    obtain ⟨x1_1, x12_1, rfl, rfl, HA, HK1, BK748, HB⟩ := hrel
    cases gk with
    | zero => exact absurd HA.out (by simp [impl_pushed.l0])
    | succ k1 =>
      have H := HA.out
      clear HA
      simp only [impl_pushed.l0] at H
      by_cases c6 : x12_1 < (l0_1.length : Int)
      · rw [if_pos c6] at H
        have c6b0 : decide (x12_1 < (l0_1.length : Int)) = true := decide_eq_true c6
        clear c6
        by_cases c7 : 0 ≤ x12_1
        · rw [if_pos c7] at H
          have c7b0 : decide (0 ≤ x12_1) = true := decide_eq_true c7
          clear c7
          by_cases c8 : x12_1 < (l0_1.length : Int)
          · rw [if_pos c8] at H
            have c8b0 : decide (x12_1 < (l0_1.length : Int)) = true := decide_eq_true c8
            clear c8
            by_cases c9 : ((rd_T37 l0_1 x12_1).f0) = a2
            · rw [if_pos c9] at H
              have c9b0 : (((rd_T37 l0_1 x12_1).f0) == a2) = true := beq_iff_eq.mpr c9
              have c9b1 : (((rd_T37 l0_1 x12_1).f0) != a2) = false := bne_eq_false_iff_eq.mpr c9
              clear c9
              have c10b0 := eq_true (of_decide_eq_true (by first | (with_reducible assumption) | assumption) : 0 ≤ x12_1)
              obtain ⟨ji11, hji11⟩ : ∃ j_ : Int, (shl .i64 1 x12_1) = j_ := ⟨_, rfl⟩
              replace H : (impl_pushed.l0 k1 (Go.bits .xor .i64 x1_1 (ji11)) a2 l0_1 (l0_1.length : Int) (wrap64 (x12_1 + 1))) = some r := by first | (rw [hji11] at H; exact H) | (simp only [hji11] at H ⊢; exact H)
              have hji11_ : (IntKind.i64.wrap (1 * 2 ^ min x12_1.toNat 64)) = ji11 := hji11
              have hji11z : x12_1 ≤ 64 → (IntKind.i64.wrap (1 * 2 ^ x12_1.toNat)) = ji11 := shl_small hji11
              have hji11u : (IntKind.i64.wrap (2 ^ min x12_1.toNat 64)) = ji11 := by have h_ := hji11_; rw [Int.one_mul] at h_; exact h_
              have hji11v : x12_1 ≤ 64 → (IntKind.i64.wrap (2 ^ x12_1.toNat)) = ji11 := fun hle_ => by have h_ := hji11z hle_; rw [Int.one_mul] at h_; exact h_
              have hji11y : (wrap64 (1 * 2 ^ min x12_1.toNat 64)) = ji11 := (i64_w _).symm.trans hji11_
              have hji11x : x12_1 ≤ 64 → (wrap64 (1 * 2 ^ x12_1.toNat)) = ji11 := fun h_ => (i64_w _).symm.trans (hji11z h_)
              have H' := Aside0.mk H
              clear H
              have p749 : 0 ≤ (x12_1 : Int) := of_decide_eq_true (by first | (with_reducible assumption) | assumption)
              have q749 : x12_1 < (l0_1.length : Int) := of_decide_eq_true (by first | (with_reducible assumption) | assumption)
              obtain ⟨ad749, e749, hx749_0, hx749_1⟩ := at_T37 HR0_1.out x12_1 p749 q749
              cases e749
              replace hx749_0 := (HB.out.cell (World.block_lt_of_cell? w _ hx749_0)).trans hx749_0
              replace hx749_1 := (HB.out.cell (World.block_lt_of_cell? w _ hx749_1)).trans hx749_1
              replace p749 := eq_true p749
              replace q749 := eq_true q749
              go_wp2_with (first | ((with_reducible refine gate_dst (N := 8) rfl ?_); refine box_event ?hg (N := 8) ?hd (cs := #[.int .i64 0, .int .i64 0]) (t := 37) ?hr ?_; (case hd => rfl); (case hg => rfl); (case hr => first | (go_simp; done) | (go_simp; rfl)); intro gb750 hg w12 hbox hb; have n0_ := Aside0.mk (blk_below (g := gb748) (o := .cells #[.int .i64 a0_0, .slice (some ad749) l0_1.length c0_1] 25 (0, 0)) (by (with_reducible repeat (first | refine blk_drewN ?_ _ | refine blk_drew ?_ | refine blk_alloc ?_ _)); exact BK748.out) hb); have n1_ := Aside0.mk (below_step (by repeat (first | (with_reducible first | exact HB.out | apply below_alloc | apply pw_below_drewN | apply below_drew1 | refine below_set ?_ GE748.out) | exact HB.out)) hb); have n2_ := Aside0.mk (hbox); have n3_ := Aside0.mk ((by rw [hg]; exact (below_size (by repeat (first | (with_reducible first | exact HB.out | apply below_alloc | apply pw_below_drewN | apply below_drew1 | refine below_set ?_ GE748.out) | exact HB.out))) : w.heap.size ≤ gb750)); have n4_ := Aside0.mk ((by rw [hg]; exact (below_size (by repeat (first | (with_reducible first | exact HB.out | apply below_alloc | apply pw_below_drewN | apply below_drew1 | refine below_set ?_ GE748.out) | exact HB.out))) : w.heap.size ≤ gb750)); have n5_ := Aside0.mk ((by rw [hg]; exact Nat.ne_of_lt (blk_lt (g := gb748) (o := .cells #[.int .i64 a0_0, .slice (some ad749) l0_1.length c0_1] 25 (0, 0)) (by (with_reducible repeat (first | refine blk_drewN ?_ _ | refine blk_drew ?_ | refine blk_alloc ?_ _)); exact BK748.out)) : gb748 ≠ gb750)); have n6_ := Aside0.mk ((by rw [hg]; exact Nat.ne_of_gt (blk_lt (g := gb748) (o := .cells #[.int .i64 a0_0, .slice (some ad749) l0_1.length c0_1] 25 (0, 0)) (by (with_reducible repeat (first | refine blk_drewN ?_ _ | refine blk_drew ?_ | refine blk_alloc ?_ _)); exact BK748.out)) : gb750 ≠ gb748)); clear BK748; clear HB; have BK748 := n0_; have HB := n1_; have BK750 := n2_; have GW750 := n3_; have GE750 := n4_; have NB748_750 := n5_; have NB750_748 := n6_; clear n0_ n1_ n2_ n3_ n4_ n5_ n6_; clear hb hbox hg; have hnb13 := NB750_748.out; have hnc13 := NB748_750.out; have hcz14_0 : w12.cell? ⟨gb750, 0, none⟩ = some (.int .i64 0) := (blk_cell BK750.out 0).trans rfl; have hcz14_1 : w12.cell? ⟨gb750, 1, none⟩ = some (.int .i64 0) := (blk_cell BK750.out 1).trans rfl; have hfz14_0 := blk_frozen BK750.out 0; have hfz14_1 := blk_frozen BK750.out 1))
              go_roundg k1
              case measure => have := HK1.out; omega
              case rel => exact ⟨(Go.bits .xor .i64 x1_1 (ji11)), (wrap64 (x12_1 + 1)), (by first | rfl | (simp; done) | (simp only [← hji11] <;> (first | rfl | simp)) | (simp [*]; done)), (by first | rfl | (simp; done) | (simp [*]; done)), H', ⟨by have := HK1.out; omega⟩, ⟨by (with_reducible repeat (first | refine blk_drewN ?_ _ | refine blk_drew ?_ | refine blk_alloc ?_ _)); refine blk_far ?_ NB748_750.out _; (with_reducible repeat (first | refine blk_drewN ?_ _ | refine blk_drew ?_ | refine blk_alloc ?_ _)); refine blk_far ?_ NB748_750.out _; (with_reducible repeat (first | refine blk_drewN ?_ _ | refine blk_drew ?_ | refine blk_alloc ?_ _)); exact BK748.out⟩, ⟨by repeat (first | (with_reducible first | exact HB.out | apply below_alloc | apply pw_below_drewN | apply below_drew1 | refine below_set ?_ GE748.out | refine below_set ?_ GE750.out) | exact HB.out)⟩⟩
            · rw [if_neg c9] at H
              have c9b0 : (((rd_T37 l0_1 x12_1).f0) == a2) = false := beq_eq_false_iff_ne.mpr c9
              have c9b1 : (((rd_T37 l0_1 x12_1).f0) != a2) = true := bne_iff_ne.mpr c9
              by_cases c15 : ((rd_T37 l0_1 x12_1).f1) = a2
              · rw [if_pos c15] at H
                have c15b0 : (((rd_T37 l0_1 x12_1).f1) == a2) = true := beq_iff_eq.mpr c15
                have c15b1 : (((rd_T37 l0_1 x12_1).f1) != a2) = false := bne_eq_false_iff_eq.mpr c15
                clear c15
                have c16b0 := eq_true (of_decide_eq_true (by first | (with_reducible assumption) | assumption) : 0 ≤ x12_1)
                obtain ⟨ji17, hji17⟩ : ∃ j_ : Int, (shl .i64 1 x12_1) = j_ := ⟨_, rfl⟩
                replace H : (impl_pushed.l0 k1 (Go.bits .xor .i64 x1_1 (ji17)) a2 l0_1 (l0_1.length : Int) (wrap64 (x12_1 + 1))) = some r := by first | (rw [hji17] at H; exact H) | (simp only [hji17] at H ⊢; exact H)
                have hji17_ : (IntKind.i64.wrap (1 * 2 ^ min x12_1.toNat 64)) = ji17 := hji17
                have hji17z : x12_1 ≤ 64 → (IntKind.i64.wrap (1 * 2 ^ x12_1.toNat)) = ji17 := shl_small hji17
                have hji17u : (IntKind.i64.wrap (2 ^ min x12_1.toNat 64)) = ji17 := by have h_ := hji17_; rw [Int.one_mul] at h_; exact h_
                have hji17v : x12_1 ≤ 64 → (IntKind.i64.wrap (2 ^ x12_1.toNat)) = ji17 := fun hle_ => by have h_ := hji17z hle_; rw [Int.one_mul] at h_; exact h_
                have hji17y : (wrap64 (1 * 2 ^ min x12_1.toNat 64)) = ji17 := (i64_w _).symm.trans hji17_
                have hji17x : x12_1 ≤ 64 → (wrap64 (1 * 2 ^ x12_1.toNat)) = ji17 := fun h_ => (i64_w _).symm.trans (hji17z h_)
                have H' := Aside0.mk H
                clear H
                have p749 : 0 ≤ (x12_1 : Int) := of_decide_eq_true (by first | (with_reducible assumption) | assumption)
                have q749 : x12_1 < (l0_1.length : Int) := of_decide_eq_true (by first | (with_reducible assumption) | assumption)
                obtain ⟨ad749, e749, hx749_0, hx749_1⟩ := at_T37 HR0_1.out x12_1 p749 q749
                cases e749
                replace hx749_0 := (HB.out.cell (World.block_lt_of_cell? w _ hx749_0)).trans hx749_0
                replace hx749_1 := (HB.out.cell (World.block_lt_of_cell? w _ hx749_1)).trans hx749_1
                replace p749 := eq_true p749
                replace q749 := eq_true q749
                go_wp2_with (first | ((with_reducible refine gate_dst (N := 8) rfl ?_); refine box_event ?hg (N := 8) ?hd (cs := #[.int .i64 0, .int .i64 0]) (t := 37) ?hr ?_; (case hd => rfl); (case hg => rfl); (case hr => first | (go_simp; done) | (go_simp; rfl)); intro gb750 hg w18 hbox hb; have n0_ := Aside0.mk (blk_below (g := gb748) (o := .cells #[.int .i64 a0_0, .slice (some ad749) l0_1.length c0_1] 25 (0, 0)) (by (with_reducible repeat (first | refine blk_drewN ?_ _ | refine blk_drew ?_ | refine blk_alloc ?_ _)); exact BK748.out) hb); have n1_ := Aside0.mk (below_step (by repeat (first | (with_reducible first | exact HB.out | apply below_alloc | apply pw_below_drewN | apply below_drew1 | refine below_set ?_ GE748.out) | exact HB.out)) hb); have n2_ := Aside0.mk (hbox); have n3_ := Aside0.mk ((by rw [hg]; exact (below_size (by repeat (first | (with_reducible first | exact HB.out | apply below_alloc | apply pw_below_drewN | apply below_drew1 | refine below_set ?_ GE748.out) | exact HB.out))) : w.heap.size ≤ gb750)); have n4_ := Aside0.mk ((by rw [hg]; exact (below_size (by repeat (first | (with_reducible first | exact HB.out | apply below_alloc | apply pw_below_drewN | apply below_drew1 | refine below_set ?_ GE748.out) | exact HB.out))) : w.heap.size ≤ gb750)); have n5_ := Aside0.mk ((by rw [hg]; exact Nat.ne_of_lt (blk_lt (g := gb748) (o := .cells #[.int .i64 a0_0, .slice (some ad749) l0_1.length c0_1] 25 (0, 0)) (by (with_reducible repeat (first | refine blk_drewN ?_ _ | refine blk_drew ?_ | refine blk_alloc ?_ _)); exact BK748.out)) : gb748 ≠ gb750)); have n6_ := Aside0.mk ((by rw [hg]; exact Nat.ne_of_gt (blk_lt (g := gb748) (o := .cells #[.int .i64 a0_0, .slice (some ad749) l0_1.length c0_1] 25 (0, 0)) (by (with_reducible repeat (first | refine blk_drewN ?_ _ | refine blk_drew ?_ | refine blk_alloc ?_ _)); exact BK748.out)) : gb750 ≠ gb748)); clear BK748; clear HB; have BK748 := n0_; have HB := n1_; have BK750 := n2_; have GW750 := n3_; have GE750 := n4_; have NB748_750 := n5_; have NB750_748 := n6_; clear n0_ n1_ n2_ n3_ n4_ n5_ n6_; clear hb hbox hg; have hnb19 := NB750_748.out; have hnc19 := NB748_750.out; have hcz20_0 : w18.cell? ⟨gb750, 0, none⟩ = some (.int .i64 0) := (blk_cell BK750.out 0).trans rfl; have hcz20_1 : w18.cell? ⟨gb750, 1, none⟩ = some (.int .i64 0) := (blk_cell BK750.out 1).trans rfl; have hfz20_0 := blk_frozen BK750.out 0; have hfz20_1 := blk_frozen BK750.out 1))
                go_roundg k1
                case measure => have := HK1.out; omega
                case rel => exact ⟨(Go.bits .xor .i64 x1_1 (ji17)), (wrap64 (x12_1 + 1)), (by first | rfl | (simp; done) | (simp only [← hji17] <;> (first | rfl | simp)) | (simp [*]; done)), (by first | rfl | (simp; done) | (simp [*]; done)), H', ⟨by have := HK1.out; omega⟩, ⟨by (with_reducible repeat (first | refine blk_drewN ?_ _ | refine blk_drew ?_ | refine blk_alloc ?_ _)); refine blk_far ?_ NB748_750.out _; (with_reducible repeat (first | refine blk_drewN ?_ _ | refine blk_drew ?_ | refine blk_alloc ?_ _)); refine blk_far ?_ NB748_750.out _; (with_reducible repeat (first | refine blk_drewN ?_ _ | refine blk_drew ?_ | refine blk_alloc ?_ _)); exact BK748.out⟩, ⟨by repeat (first | (with_reducible first | exact HB.out | apply below_alloc | apply pw_below_drewN | apply below_drew1 | refine below_set ?_ GE748.out | refine below_set ?_ GE750.out) | exact HB.out)⟩⟩
              · rw [if_neg c15] at H
                have c15b0 : (((rd_T37 l0_1 x12_1).f1) == a2) = false := beq_eq_false_iff_ne.mpr c15
                have c15b1 : (((rd_T37 l0_1 x12_1).f1) != a2) = true := bne_iff_ne.mpr c15
                have H' := Aside0.mk H
                clear H
                have p749 : 0 ≤ (x12_1 : Int) := of_decide_eq_true (by first | (with_reducible assumption) | assumption)
                have q749 : x12_1 < (l0_1.length : Int) := of_decide_eq_true (by first | (with_reducible assumption) | assumption)
                obtain ⟨ad749, e749, hx749_0, hx749_1⟩ := at_T37 HR0_1.out x12_1 p749 q749
                cases e749
                replace hx749_0 := (HB.out.cell (World.block_lt_of_cell? w _ hx749_0)).trans hx749_0
                replace hx749_1 := (HB.out.cell (World.block_lt_of_cell? w _ hx749_1)).trans hx749_1
                replace p749 := eq_true p749
                replace q749 := eq_true q749
                go_wp2_with (first | ((with_reducible refine gate_dst (N := 8) rfl ?_); refine box_event ?hg (N := 8) ?hd (cs := #[.int .i64 0, .int .i64 0]) (t := 37) ?hr ?_; (case hd => rfl); (case hg => rfl); (case hr => first | (go_simp; done) | (go_simp; rfl)); intro gb750 hg w21 hbox hb; have n0_ := Aside0.mk (blk_below (g := gb748) (o := .cells #[.int .i64 a0_0, .slice (some ad749) l0_1.length c0_1] 25 (0, 0)) (by (with_reducible repeat (first | refine blk_drewN ?_ _ | refine blk_drew ?_ | refine blk_alloc ?_ _)); exact BK748.out) hb); have n1_ := Aside0.mk (below_step (by repeat (first | (with_reducible first | exact HB.out | apply below_alloc | apply pw_below_drewN | apply below_drew1 | refine below_set ?_ GE748.out) | exact HB.out)) hb); have n2_ := Aside0.mk (hbox); have n3_ := Aside0.mk ((by rw [hg]; exact (below_size (by repeat (first | (with_reducible first | exact HB.out | apply below_alloc | apply pw_below_drewN | apply below_drew1 | refine below_set ?_ GE748.out) | exact HB.out))) : w.heap.size ≤ gb750)); have n4_ := Aside0.mk ((by rw [hg]; exact (below_size (by repeat (first | (with_reducible first | exact HB.out | apply below_alloc | apply pw_below_drewN | apply below_drew1 | refine below_set ?_ GE748.out) | exact HB.out))) : w.heap.size ≤ gb750)); have n5_ := Aside0.mk ((by rw [hg]; exact Nat.ne_of_lt (blk_lt (g := gb748) (o := .cells #[.int .i64 a0_0, .slice (some ad749) l0_1.length c0_1] 25 (0, 0)) (by (with_reducible repeat (first | refine blk_drewN ?_ _ | refine blk_drew ?_ | refine blk_alloc ?_ _)); exact BK748.out)) : gb748 ≠ gb750)); have n6_ := Aside0.mk ((by rw [hg]; exact Nat.ne_of_gt (blk_lt (g := gb748) (o := .cells #[.int .i64 a0_0, .slice (some ad749) l0_1.length c0_1] 25 (0, 0)) (by (with_reducible repeat (first | refine blk_drewN ?_ _ | refine blk_drew ?_ | refine blk_alloc ?_ _)); exact BK748.out)) : gb750 ≠ gb748)); clear BK748; clear HB; have BK748 := n0_; have HB := n1_; have BK750 := n2_; have GW750 := n3_; have GE750 := n4_; have NB748_750 := n5_; have NB750_748 := n6_; clear n0_ n1_ n2_ n3_ n4_ n5_ n6_; clear hb hbox hg; have hnb22 := NB750_748.out; have hnc22 := NB748_750.out; have hcz23_0 : w21.cell? ⟨gb750, 0, none⟩ = some (.int .i64 0) := (blk_cell BK750.out 0).trans rfl; have hcz23_1 : w21.cell? ⟨gb750, 1, none⟩ = some (.int .i64 0) := (blk_cell BK750.out 1).trans rfl; have hfz23_0 := blk_frozen BK750.out 0; have hfz23_1 := blk_frozen BK750.out 1))
                go_roundg k1
                case measure => have := HK1.out; omega
                case rel => exact ⟨(x1_1), (wrap64 (x12_1 + 1)), (by first | rfl | (simp; done) | (simp [*]; done)), (by first | rfl | (simp; done) | (simp [*]; done)), H', ⟨by have := HK1.out; omega⟩, ⟨by (with_reducible repeat (first | refine blk_drewN ?_ _ | refine blk_drew ?_ | refine blk_alloc ?_ _)); refine blk_far ?_ NB748_750.out _; (with_reducible repeat (first | refine blk_drewN ?_ _ | refine blk_drew ?_ | refine blk_alloc ?_ _)); refine blk_far ?_ NB748_750.out _; (with_reducible repeat (first | refine blk_drewN ?_ _ | refine blk_drew ?_ | refine blk_alloc ?_ _)); exact BK748.out⟩, ⟨by repeat (first | (with_reducible first | exact HB.out | apply below_alloc | apply pw_below_drewN | apply below_drew1 | refine below_set ?_ GE748.out | refine below_set ?_ GE750.out) | exact HB.out)⟩⟩
          · rw [if_neg c8] at H
            exact absurd H (by simp)
        · rw [if_neg c7] at H
          exact absurd H (by simp)
      · rw [if_neg c6] at H
        have c6b0 : decide (x12_1 < (l0_1.length : Int)) = false := decide_eq_false c6
        clear c6
        obtain rfl := Option.some.inj H
        go_wp2
        go_ret
        exact ⟨by first | rfl | (simp [errW_none, errW_some] <;> rfl) | (simp [*, errW_none, errW_some] <;> rfl), by repeat (first | (with_reducible first | exact HB.out | apply below_alloc | apply pw_below_drewN | apply below_drew1 | refine below_set ?_ GE748.out) | exact HB.out)⟩

end Go.Proofs.Ytjklkphhfkdkpaa.P
