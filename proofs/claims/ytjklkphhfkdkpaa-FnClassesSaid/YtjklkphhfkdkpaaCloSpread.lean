-- Began as print.py's text over a stand-in; turned to the true function by a program of mine (wip/tools). Lean checks it.
import Derived.Test.YtjklkphhfkdkpaaPx0
import Derived.Test.YtjklkphhfkdkpaaCloClasses
namespace Go.Proofs.Ytjklkphhfkdkpaa.P
open Go.RowKit Go.Proofs.YtjklkphhfkdkpaaW.PrintWords Go.Proofs.YtjklkphhfkdkpaaW.PrintLast Go.Proofs.YtjklkphhfkdkpaaW.PrintMore
attribute [local go_sem] max2_int min2_int max_two min_two max_three min_three max_four min_four   -- for this text's walks alone
set_option linter.unusedVariables false
set_option linter.unusedSimpArgs false

/-! ### impl_spread: function 56 -/
mutual
def impl_spread.l0 : Nat → List Int → Int → List Bool → Int → List (S37) → Option (Int × List Bool)
  | 0, _, _, _, _, _ => none
  | k + 1, x7, x8, x48, x327000, x327001 => if x8 < (x7.length : Int) then (if 0 ≤ x8 then ((impl_PlainClassesX.f k (rd x7 x8) x327000 x327001).bind fun t335 => (impl_spread.l1 k x7 x8 t335 (t335.length : Int) 0 x48 x327000 x327001)) else (none)) else (some ((x7.length : Int), x48))
def impl_spread.l1 : Nat → List Int → Int → List Int → Int → Int → List Bool → Int → List (S37) → Option (Int × List Bool)
  | 0, _, _, _, _, _, _, _, _ => none
  | k + 1, x7, x8, x27, x28, x29, x48, x327000, x327001 => if x29 < x28 then (if 0 ≤ x29 then (if x29 < (x27.length : Int) then (if 0 ≤ (rd x27 x29) then (if (rd x27 x29) < (x48.length : Int) then (if (rdOf false x48 (rd x27 x29) = true) then (impl_spread.l1 k x7 x8 x27 x28 (wrap64 (x29 + 1)) x48 x327000 x327001) else (if x7.length < 17592186044416 then (impl_spread.l1 k (x7 ++ [rd x27 x29]) x8 x27 x28 (wrap64 (x29 + 1)) (x48.set ((rd x27 x29) : Int).toNat true) x327000 x327001) else (none))) else (none)) else (none)) else (none)) else (none)) else (impl_spread.l0 k x7 (wrap64 (x8 + 1)) x48 x327000 x327001)
end
def impl_spread.f (k : Nat) (a0 : Int) (s0 : List Bool) (a2_0 : Int) (l2_1 : List (S37)) : Option (Int × List Bool) := if 0 ≤ (s0.length : Int) then (if ((s0.length : Int) : Int).toNat ≤ 281474976710656 then ((some (s0 : List Bool)).bind fun y327 => (if 0 ≤ a0 then (if a0 < (y327.length : Int) then (impl_spread.l0 k (([a0] : List Int)) 0 (y327.set (a0 : Int).toNat true) a2_0 l2_1) else (none)) else (none))) else (none)) else (none)
theorem impl_spread.mono_l : ∀ k, (∀ y0 y1 y2 y3 y4, LeO (impl_spread.l0 k y0 y1 y2 y3 y4) (impl_spread.l0 (k + 1) y0 y1 y2 y3 y4)) ∧ (∀ y0 y1 y2 y3 y4 y5 y6 y7, LeO (impl_spread.l1 k y0 y1 y2 y3 y4 y5 y6 y7) (impl_spread.l1 (k + 1) y0 y1 y2 y3 y4 y5 y6 y7))
  | 0 => ⟨fun _ _ _ _ _ r h => by simp [impl_spread.l0] at h, fun _ _ _ _ _ _ _ _ r h => by simp [impl_spread.l1] at h⟩
  | k + 1 => by
    obtain ⟨ih0, ih1⟩ := impl_spread.mono_l k
    refine ⟨?_, ?_⟩
    · intro y0 y1 y2 y3 y4
      unfold impl_spread.l0
      repeat' first
      | (with_reducible exact ih0 _ _ _ _ _)
      | (with_reducible exact ih1 _ _ _ _ _ _ _ _)
      | (with_reducible exact impl_PlainClassesX.mono _ _ _ _)
      | (with_reducible exact LeO.refl _)
      | (with_reducible exact LeO.none _)
      | (with_reducible refine LeO.ite ?_ ?_)
      | (with_reducible refine LeO.bind ?_ (fun _ => ?_))
      | exact ih0 _ _ _ _ _
      | exact ih1 _ _ _ _ _ _ _ _
      | exact impl_PlainClassesX.mono _ _ _ _
      | exact LeO.none _
      | refine LeO.ite ?_ ?_
      | refine LeO.bind ?_ (fun _ => ?_)
    · intro y0 y1 y2 y3 y4 y5 y6 y7
      unfold impl_spread.l1
      repeat' first
      | (with_reducible exact ih0 _ _ _ _ _)
      | (with_reducible exact ih1 _ _ _ _ _ _ _ _)
      | (with_reducible exact impl_PlainClassesX.mono _ _ _ _)
      | (with_reducible exact LeO.refl _)
      | (with_reducible exact LeO.none _)
      | (with_reducible refine LeO.ite ?_ ?_)
      | (with_reducible refine LeO.bind ?_ (fun _ => ?_))
      | exact ih0 _ _ _ _ _
      | exact ih1 _ _ _ _ _ _ _ _
      | exact impl_PlainClassesX.mono _ _ _ _
      | exact LeO.none _
      | refine LeO.ite ?_ ?_
      | refine LeO.bind ?_ (fun _ => ?_)
theorem impl_spread.mono : ∀ a0 a1 a2 a3 k, LeO (impl_spread.f k a0 a1 a2 a3) (impl_spread.f (k + 1) a0 a1 a2 a3) := by
  intro a0 a1 a2 a3 k
  obtain ⟨ih0, ih1⟩ := impl_spread.mono_l k
  unfold impl_spread.f
  repeat' first
      | (with_reducible exact ih0 _ _ _ _ _)
      | (with_reducible exact ih1 _ _ _ _ _ _ _ _)
      | (with_reducible exact impl_PlainClassesX.mono _ _ _ _)
      | (with_reducible exact LeO.refl _)
      | (with_reducible exact LeO.none _)
      | (with_reducible refine LeO.ite ?_ ?_)
      | (with_reducible refine LeO.bind ?_ (fun _ => ?_))
      | exact ih0 _ _ _ _ _
      | exact ih1 _ _ _ _ _ _ _ _
      | exact impl_PlainClassesX.mono _ _ _ _
      | exact LeO.none _
      | refine LeO.ite ?_ ?_
      | refine LeO.bind ?_ (fun _ => ?_)
set_option maxHeartbeats 8000000 in
set_option maxRecDepth 100000 in
theorem spread56 (k : Nat) (a0 : Int) (s0 : List Bool) (As : Option Addr) (cs : Nat) (a2_0 : Int) (A2_1 : Option Addr) (c2_1 : Nat) (l2_1 : List (S37)) (r : Int) (s' : List Bool) (gbA : Nat) (w0 w : World) (hB0 : Below w0.heap.size w0 w) (hseen : Kd.R Kd.bool 4 w w0.heap.size (fun _ => True) (.slice As s0.length cs) s0) (hbA : w.heap[gbA]? = some (.cells #[.int .i64 a2_0, .slice A2_1 l2_1.length c2_1] 25 (0, 0))) (hgA : w0.heap.size ≤ gbA) (hr2_1 : Kd.C k37 w0 A2_1 l2_1.length l2_1) (hc2_1 : l2_1.length ≤ c2_1) (h : impl_spread.f k a0 s0 a2_0 l2_1 = some (r, s')) :
    Calls Try.prog 56 #[.int .i64 a0, .slice As s0.length cs, .func (.func 57) #[] #[.pointer (some ⟨gbA, 0, none⟩)]] w fun e w' => e = .returned (.int .i64 r) ∧ Kd.R Kd.bool 4 w' w0.heap.size (fun _ => True) (.slice As s0.length cs) s' ∧ w'.heap[gbA]? = some (.cells #[.int .i64 a2_0, .slice A2_1 l2_1.length c2_1] 25 (0, 0)) ∧ Below w0.heap.size w0 w' := by
  have hu25 := Try.underlying25
  have HR2_1 := Aside0.mk hr2_1
  have HC2_1 := Aside0.mk hc2_1
  clear hr2_1 hc2_1
  have HB := Aside0.mk hB0
  have H : (if 0 ≤ (s0.length : Int) then (if ((s0.length : Int) : Int).toNat ≤ 281474976710656 then ((some (s0 : List Bool)).bind fun y327 => (if 0 ≤ a0 then (if a0 < (y327.length : Int) then (impl_spread.l0 k (([a0] : List Int)) 0 (y327.set (a0 : Int).toNat true) a2_0 l2_1) else (none)) else (none))) else (none)) else (none)) = some (r, s') := h
  clear h
  by_cases c4 : 0 ≤ (s0.length : Int)
  · rw [if_pos c4] at H
    have c4b0 := eq_true c4
    have c4b1 : decide (0 ≤ (s0.length : Int)) = true := decide_eq_true c4
    clear c4
    by_cases c5 : ((s0.length : Int) : Int).toNat ≤ 281474976710656
    · rw [if_pos c5] at H
      have c5b0 := eq_true c5
      have c5b1 : decide (((s0.length : Int) : Int).toNat ≤ 281474976710656) = true := decide_eq_true c5
      clear c5
      obtain ⟨y327, hy327⟩ : ∃ y_ : List Bool, y_ = s0 := ⟨_, rfl⟩
      replace H : (if 0 ≤ a0 then (if a0 < (y327.length : Int) then (impl_spread.l0 k (([a0] : List Int)) 0 (y327.set (a0 : Int).toNat true) a2_0 l2_1) else (none)) else (none)) = some (r, s') := by first | (rw [hy327]; with_reducible exact H) | (have H2_ := (Option.bind_some _ _).symm.trans H; rw [hy327]; with_reducible exact H2_) | (have H2_ := (Option.bind_some _ _).symm.trans H; with_reducible exact H2_) | with_reducible exact H | (rw [hy327]; exact H) | exact H
      have Ny327 := Aside0.mk hy327
      clear hy327
      by_cases c6 : 0 ≤ a0
      · rw [if_pos c6] at H
        have c6b0 : decide (0 ≤ a0) = true := decide_eq_true c6
        clear c6
        by_cases c7 : a0 < (y327.length : Int)
        · rw [if_pos c7] at H
          have c7b0 : decide (a0 < (y327.length : Int)) = true := decide_eq_true c7
          clear c7
          obtain ⟨y330, hy330⟩ : ∃ y_ : List Bool, y_ = (y327.set (a0 : Int).toNat true) := ⟨_, rfl⟩
          replace H : (impl_spread.l0 k (([a0] : List Int)) 0 y330 a2_0 l2_1) = some (r, s') := by first | (rw [hy330]; with_reducible exact H) | (have H2_ := (Option.bind_some _ _).symm.trans H; rw [hy330]; with_reducible exact H2_) | (have H2_ := (Option.bind_some _ _).symm.trans H; with_reducible exact H2_) | with_reducible exact H | (rw [hy330]; exact H) | exact H
          have Ny330 := Aside0.mk hy330
          clear hy330
          obtain ⟨y331, hy331⟩ : ∃ y_ : List Int, y_ = (([a0] : List Int)) := ⟨_, rfl⟩
          replace H : (impl_spread.l0 k y331 0 y330 a2_0 l2_1) = some (r, s') := by first | (rw [hy331]; with_reducible exact H) | (have H2_ := (Option.bind_some _ _).symm.trans H; rw [hy331]; with_reducible exact H2_) | (have H2_ := (Option.bind_some _ _).symm.trans H; with_reducible exact H2_) | with_reducible exact H | (rw [hy331]; exact H) | exact H
          have Ny331 := Aside0.mk hy331
          clear hy331
          have H' := Aside0.mk H
          clear H
          have BK326 := Aside0.mk hbA
          have GE326 := Aside0.mk hgA
          have GW326 := Aside0.mk hgA
          have HO329 := Aside0.mk (show Kd.R Kd.bool 4 w w0.heap.size (fun _ => True) (.slice As y327.length cs) y327 by rw [Ny327.out]; exact hseen)
          rw [← Ny327.out]
          (have p8 : 0 ≤ (a0 : Int) := of_decide_eq_true (by first | (with_reducible assumption) | assumption); have q8 : (a0 : Int) < ((y327.length : Int) : Int) := of_decide_eq_true (by first | (with_reducible assumption) | assumption); obtain ⟨go8, co8, eo8, gb8, gl8, cl8, HG8⟩ := Kd.R_form HO329.out (by omega); (first | cases eo8 | (injection eo8 with ea_ en_ ec_; (first | subst ea_ | (injection ea_ with ea_; subst ea_)); subst ec_; clear en_)); have GB8 := Aside0.mk gb8; have GG8 := Aside0.mk HG8; clear gb8 gl8 HG8; obtain ⟨hx8_0, hf8_0⟩ := Kd.R_celln false HO329.out (a0 : Int) p8 q8; replace p8 := eq_true p8; replace q8 := eq_true q8; obtain ⟨hy12_, hz12_⟩ := Kd.R_celln false HO329.out (a0 : Int) (of_decide_eq_true (by first | (with_reducible assumption) | assumption)) (of_decide_eq_true (by first | (with_reducible assumption) | assumption)); have HP12 := Kd.R_putg HO329.out (a0 : Int) true)
          go_enter Try.func56, Try.ntmps56
          go_wp2_with (first | ((with_reducible refine gate_store (t := 4) (p := 13) rfl ?_); refine store_event (t := 4) (p := 13) (v := ?vo_w13) (w1 := (w.setCell ⟨go8, (a0 : Int).toNat, none⟩ (.bool true))) ?hg ?ho ?hn ?hr ?_; (case ho => rfl); (case hg => rfl); (case hn => rfl); (case hr => first | (go_simp; done) | (go_simp; rfl)); intro w13 hw; have hg : w.grownBy w13 (some go8) := (by rw [hw]; exact HP12.2); have hp_ : Kd.R Kd.bool 4 w13 w0.heap.size (fun _ => True) (.slice (some ⟨go8, 0, none⟩) y327.length cs) y330 := (by rw [hw, Ny330.out]; exact HP12.1); clear HP12; have n0_ := Aside0.mk (blk_grown (g := gbA) (o := .cells #[.int .i64 a2_0, .slice A2_1 l2_1.length c2_1] 25 (0, 0)) (by (with_reducible repeat (first | refine blk_drewN ?_ _ | refine blk_drew ?_ | refine blk_alloc ?_ _)); exact BK326.out) hg (Kd.R_ne HO329.out BK326.out (by decide))); have n1_ := Aside0.mk (hp_); have n2_ := Aside0.mk ((by rw [hw]; exact below_set (HB.out) GB8.out : Below w0.heap.size w0 w13)); clear BK326; clear HO329; clear HB; have BK326 := n0_; have HO329 := n1_; have HB := n2_; clear n0_ n1_ n2_; clear hg hw hp_) | ((with_reducible refine gate_dst (N := 15) rfl ?_); refine Kd.R_lit (Kd.int .i64) _ 3 ?hg (N := 15) ?hd (xs := ([a0] : List Int)) (inner := [.int .i64 a0]) (ok := fun _ => True) (okp := fun _ => True) ?hr ?hp (fun _ hk => hk) trivial (Below.refl _ _) (Nat.le_refl _) (by simp) ?_; (case hd => rfl); (case hg => rfl); (case hr => first | (go_simp; done) | (go_simp; rfl)); (case hp => exact (Reps.one (show Kd.M (Kd.int .i64) _ _ _ a0 [.int .i64 a0] from rfl) (Reps.none _ _))); intro v332 w14 ho15 hb hg_ hnew_; clear hg_ hnew_; (first | rw [← Ny331.out] at ho15 | (simp only [Int.reduceToNat] at ho15; rw [← Ny331.out] at ho15)); have n0_ := Aside0.mk (Kd.R_below (by (with_reducible repeat (first | apply Kd.R_alloc | apply Kd.R_drewN | apply Kd.R_drew)); exact HO329.out) hb); have n1_ := Aside0.mk (Kd.R_lower ho15 (below_size (by repeat (first | (with_reducible first | exact HB.out | apply below_alloc | apply pw_below_drewN | apply below_drew1 | refine below_set ?_ GE326.out) | exact HB.out)))); have n2_ := Aside0.mk (blk_below (g := gbA) (o := .cells #[.int .i64 a2_0, .slice A2_1 l2_1.length c2_1] 25 (0, 0)) (by (with_reducible repeat (first | refine blk_drewN ?_ _ | refine blk_drew ?_ | refine blk_alloc ?_ _)); exact BK326.out) hb); have n3_ := Aside0.mk (below_step (by repeat (first | (with_reducible first | exact HB.out | apply below_alloc | apply pw_below_drewN | apply below_drew1 | refine below_set ?_ GE326.out) | exact HB.out)) hb); clear HO329; clear BK326; clear HB; have HO329 := n0_; have HO333 := n1_; have BK326 := n2_; have HB := n3_; clear n0_ n1_ n2_ n3_; clear hb ho15))
          go_loopg [7, 8] k (fun kq v7 v8 w' => ∃ (x7_1 : List Int) (x8_1 : Int) (x48_1 : List Bool), v8 = .int .i64 x8_1 ∧ Aside0 (impl_spread.l0 kq x7_1 x8_1 x48_1 a2_0 l2_1 = some (r, s')) ∧ Aside0 (kq ≤ k) ∧ Aside0 (Kd.R (Kd.int .i64) 3 w' w0.heap.size (fun _ => True) v7 x7_1) ∧ Aside0 (Kd.R Kd.bool 4 w' w0.heap.size (fun _ => True) (.slice (some ⟨go8, 0, none⟩) y327.length cs) x48_1) ∧ Aside0 (w'.heap[gbA]? = some (.cells #[.int .i64 a2_0, (.slice A2_1 l2_1.length c2_1)] 25 (0, 0))) ∧ Aside0 (Below w0.heap.size w0 w'))
          case atStart => exact ⟨(y331), (0), (y330), (by first | rfl | (simp; done) | (simp [*]; done)), H', ⟨Nat.le_refl _⟩, ⟨by (with_reducible repeat (first | apply Kd.R_alloc | apply Kd.R_drewN | apply Kd.R_drew)); exact HO333.out⟩, ⟨by (with_reducible repeat (first | apply Kd.R_alloc | apply Kd.R_drewN | apply Kd.R_drew)); exact HO329.out⟩, ⟨by (with_reducible repeat (first | refine blk_drewN ?_ _ | refine blk_drew ?_ | refine blk_alloc ?_ _)); exact BK326.out⟩, ⟨by repeat (first | (with_reducible first | exact HB.out | apply below_alloc | apply pw_below_drewN | apply below_drew1 | refine below_set ?_ GE326.out) | exact HB.out)⟩⟩
          case round =>
            clear H'
            try clear c2
            try clear p2
            try clear c4
            try clear c4b0
            try clear c4b1
            try clear c5
            try clear c5b0
            try clear c5b1
            try clear c6
            try clear c6b0
            try clear c7
            try clear c7b0
            try clear p8
            try clear q8
            try clear hx8
            try clear hf8
            try clear hx8_0
            try clear p8
            try clear q8
            obtain ⟨x7_1, x8_1, x48_1, rfl, HA, HK1, HO_7, HO_48, BK326, HB⟩ := hrel
            have hl48_1 := (Kd.R_reads' HO_48.out).1
            rw [hl48_1] at HO_48
            (try simp only [hl48_1])
            (try simp only [hl48_1] at BK326)
            (try simp only [hl48_1] at HO_7)
            cases gk with
            | zero => exact absurd HA.out (by simp [impl_spread.l0])
            | succ k1 =>
              have H := HA.out
              clear HA
              simp only [impl_spread.l0] at H
              by_cases c16 : x8_1 < (x7_1.length : Int)
              · rw [if_pos c16] at H
                have c16b0 : decide (x8_1 < (x7_1.length : Int)) = true := decide_eq_true c16
                clear c16
                by_cases c17 : 0 ≤ x8_1
                · rw [if_pos c17] at H
                  have c17b0 : decide (0 ≤ x8_1) = true := decide_eq_true c17
                  clear c17
                  replace H := Option.bind_eq_some_iff.mp H
                  obtain ⟨t335, A180, H⟩ := H
                  replace H : (impl_spread.l1 k1 x7_1 x8_1 t335 (t335.length : Int) 0 x48_1 a2_0 l2_1) = some (r, s') := H
                  have A18 := Aside0.mk A180
                  clear A180
                  have H' := Aside0.mk H
                  clear H
                  obtain ⟨Ao19, co19, eo19⟩ := Kd.R_slice HO_7.out
                  subst eo19
                  have hcz20_0 : wr.cell? ⟨gbA, 0, none⟩ = some (.int .i64 a2_0) := (blk_cell BK326.out 0).trans rfl
                  have hcz20_1 : wr.cell? ⟨gbA, 1, none⟩ = some (.slice A2_1 l2_1.length c2_1) := (blk_cell BK326.out 1).trans rfl
                  have hfz20_0 := blk_frozen BK326.out 0
                  have hfz20_1 := blk_frozen BK326.out 1
                  have p334 : 0 ≤ (x8_1 : Int) := of_decide_eq_true (by first | (with_reducible assumption) | assumption)
                  have q334 : x8_1 < (x7_1.length : Int) := of_decide_eq_true (by first | (with_reducible assumption) | assumption)
                  obtain ⟨ad334, e334, hx334_0⟩ := Kd.at_int (Kd.R_reads' HO_7.out).2.2 x8_1 p334 q334
                  cases e334
                  replace p334 := eq_true p334
                  replace q334 := eq_true q334
                  go_wp2_with (first | (go_at_call 57; (with_reducible refine (clos57 k1 (rd x7_1 x8_1) a2_0 A2_1 c2_1 l2_1 t335 gbA _ ?sideb ?side1 ?side2 A18.out).mono ?_); (case sideb => (with_reducible repeat (first | refine blk_drewN ?_ _ | refine blk_drew ?_ | refine blk_alloc ?_ _)); exact BK326.out); (case side1 => repeat (first | exact (Kd.C_below HR2_1.out HB.out) | (with_reducible refine Kd.C_alloc ?_ _) | (with_reducible refine Kd.C_drewN ?_ _) | (with_reducible refine Kd.C_drew ?_))); (case side2 => exact HC2_1.out); rintro e w21 ⟨v336, rfl, ho0, hb⟩; have n0_ := Aside0.mk (Kd.R_elder' (by (with_reducible repeat (first | apply Kd.R_alloc | apply Kd.R_drewN | apply Kd.R_drew)); exact HO_7.out) (Kd.R_base ho0) hb); have n1_ := Aside0.mk (Kd.R_below (by (with_reducible repeat (first | apply Kd.R_alloc | apply Kd.R_drewN | apply Kd.R_drew)); exact HO_48.out) hb); have n2_ := Aside0.mk (Kd.R_lower (Kd.R_new' ho0 (Kd.R_lt (by (with_reducible repeat (first | apply Kd.R_alloc | apply Kd.R_drewN | apply Kd.R_drew)); exact HO_7.out))) (below_size (by repeat (first | (with_reducible first | exact HB.out | apply below_alloc | apply pw_below_drewN | apply below_drew1 | refine below_set ?_ GE326.out) | exact HB.out)))); have n3_ := Aside0.mk (blk_below (g := gbA) (o := .cells #[.int .i64 a2_0, .slice A2_1 l2_1.length c2_1] 25 (0, 0)) (by (with_reducible repeat (first | refine blk_drewN ?_ _ | refine blk_drew ?_ | refine blk_alloc ?_ _)); exact BK326.out) hb); have n4_ := Aside0.mk (below_step (by repeat (first | (with_reducible first | exact HB.out | apply below_alloc | apply pw_below_drewN | apply below_drew1 | refine below_set ?_ GE326.out) | exact HB.out)) hb); clear HO_7; clear HO_48; clear BK326; clear HB; have HO_7 := n0_; have HO_48 := n1_; have HO337 := n2_; have BK326 := n3_; have HB := n4_; clear n0_ n1_ n2_ n3_ n4_; (try clear hb); (try clear hb2); (try clear hk); (try clear hi); (try clear ho0); obtain ⟨Ao22, co22, eo22⟩ := Kd.R_slice HO337.out; subst eo22))
                  go_loopg [7, 29] k1 (fun kq v7 v29 w' => ∃ (x7_2 : List Int) (x29_2 : Int) (x48_2 : List Bool), v29 = .int .i64 x29_2 ∧ Aside0 (impl_spread.l1 kq x7_2 x8_1 t335 (t335.length : Int) x29_2 x48_2 a2_0 l2_1 = some (r, s')) ∧ Aside0 (kq ≤ k1) ∧ Aside0 (Kd.R (Kd.int .i64) 3 w' w0.heap.size (fun k_ => some k_ ≠ ((.slice Ao22 t335.length co22) : Value).ownBlock) v7 x7_2) ∧ Aside0 (Kd.R (Kd.int .i64) 3 w' w0.heap.size (fun k_ => some k_ ≠ (v7 : Value).ownBlock) (.slice Ao22 t335.length co22) t335) ∧ Aside0 (Kd.R Kd.bool 4 w' w0.heap.size (fun _ => True) (.slice (some ⟨go8, 0, none⟩) x48_1.length cs) x48_2) ∧ Aside0 (w'.heap[gbA]? = some (.cells #[.int .i64 a2_0, (.slice A2_1 l2_1.length c2_1)] 25 (0, 0))) ∧ Aside0 (Below w0.heap.size w0 w'))
                  case atStart => exact ⟨(x7_1), (0), (x48_1), (by first | rfl | (simp; done) | (simp [*]; done)), H', ⟨Nat.le_refl _⟩, ⟨by (try simp only [hl48_1]); (with_reducible repeat (first | apply Kd.R_alloc | apply Kd.R_drewN | apply Kd.R_drew)); exact Kd.R_mono HO_7.out (fun _ hk => hk.2)⟩, ⟨by (try simp only [hl48_1]); (with_reducible repeat (first | apply Kd.R_alloc | apply Kd.R_drewN | apply Kd.R_drew)); exact Kd.R_mono HO337.out (fun _ hk => hk.2)⟩, ⟨by (try simp only [hl48_1]); (with_reducible repeat (first | apply Kd.R_alloc | apply Kd.R_drewN | apply Kd.R_drew)); exact HO_48.out⟩, ⟨by (try simp only [hl48_1]); (with_reducible repeat (first | refine blk_drewN ?_ _ | refine blk_drew ?_ | refine blk_alloc ?_ _)); exact BK326.out⟩, ⟨by repeat (first | (with_reducible first | exact HB.out | apply below_alloc | apply pw_below_drewN | apply below_drew1 | refine below_set ?_ GE326.out) | exact HB.out)⟩⟩
                  case round =>
                    clear H'
                    try clear c1
                    try clear c2
                    try clear p2
                    try clear p3
                    try clear q3
                    try clear hx3
                    try clear c4
                    try clear c4b0
                    try clear c4b1
                    try clear c5
                    try clear c5b0
                    try clear c5b1
                    try clear c6
                    try clear c6b0
                    try clear c7
                    try clear c7b0
                    try clear p8
                    try clear q8
                    try clear hx8
                    try clear hf8
                    try clear c16
                    try clear c16b0
                    try clear c17
                    try clear c17b0
                    try clear hcz20_0
                    try clear hcz20_1
                    try clear hfz20_0
                    try clear hfz20_1
                    try clear hx334_0
                    try clear hx8_0
                    try clear p2
                    try clear p334
                    try clear p8
                    try clear q334
                    try clear q8
                    obtain ⟨x7_2, x29_2, x48_2, rfl, HA, HK2, HO_7, HO_27, HO_48, BK326, HB⟩ := hrel
                    have hl48_2 := (Kd.R_reads' HO_48.out).1
                    rw [hl48_2] at HO_48
                    (try simp only [hl48_2])
                    (try simp only [hl48_2] at BK326)
                    (try simp only [hl48_2] at HO_7)
                    (try simp only [hl48_2] at HO_27)
                    cases gk with
                    | zero => exact absurd HA.out (by simp [impl_spread.l1])
                    | succ k2 =>
                      have H := HA.out
                      clear HA
                      simp only [impl_spread.l1] at H
                      by_cases c23 : x29_2 < (t335.length : Int)
                      · rw [if_pos c23] at H
                        have c23b0 : decide (x29_2 < (t335.length : Int)) = true := decide_eq_true c23
                        clear c23
                        by_cases c24 : 0 ≤ x29_2
                        · rw [if_pos c24] at H
                          have c24b0 : decide (0 ≤ x29_2) = true := decide_eq_true c24
                          clear c24
                          by_cases c25 : x29_2 < (t335.length : Int)
                          · rw [if_pos c25] at H
                            have c25b0 : decide (x29_2 < (t335.length : Int)) = true := decide_eq_true c25
                            clear c25
                            by_cases c26 : 0 ≤ (rd t335 x29_2)
                            · rw [if_pos c26] at H
                              have c26b0 : decide (0 ≤ (rd t335 x29_2)) = true := decide_eq_true c26
                              clear c26
                              by_cases c27 : (rd t335 x29_2) < (x48_2.length : Int)
                              · rw [if_pos c27] at H
                                have c27b0 : decide ((rd t335 x29_2) < (x48_2.length : Int)) = true := decide_eq_true c27
                                clear c27
                                obtain ⟨bq28, hbq28⟩ : ∃ b_ : Bool, b_ = (rdOf false x48_2 (rd t335 x29_2)) := ⟨_, rfl⟩
                                replace H : (if (bq28 = true) then (impl_spread.l1 k2 x7_2 x8_1 t335 (t335.length : Int) (wrap64 (x29_2 + 1)) x48_2 a2_0 l2_1) else (if x7_2.length < 17592186044416 then (impl_spread.l1 k2 (x7_2 ++ [rd t335 x29_2]) x8_1 t335 (t335.length : Int) (wrap64 (x29_2 + 1)) (x48_2.set ((rd t335 x29_2) : Int).toNat true) a2_0 l2_1) else (none))) = some (r, s') := by rw [← hbq28] at H; exact H
                                have Nbq28 := Aside0.mk hbq28
                                clear hbq28
                                by_cases c29 : (bq28 = true)
                                · subst c29
                                  have H1 : (impl_spread.l1 k2 x7_2 x8_1 t335 (t335.length : Int) (wrap64 (x29_2 + 1)) x48_2 a2_0 l2_1) = some (r, s') := by rw [if_pos rfl] at H; exact H
                                  clear H
                                  have H := H1
                                  clear H1
                                  have H' := Aside0.mk H
                                  clear H
                                  have p338 : 0 ≤ (x29_2 : Int) := of_decide_eq_true (by first | (with_reducible assumption) | assumption)
                                  have q338 : x29_2 < (t335.length : Int) := of_decide_eq_true (by first | (with_reducible assumption) | assumption)
                                  obtain ⟨ad338, e338, hx338_0⟩ := Kd.at_int (Kd.R_reads' HO_27.out).2.2 x29_2 p338 q338
                                  cases e338
                                  replace p338 := eq_true p338
                                  replace q338 := eq_true q338
                                  have p339 : 0 ≤ ((rd t335 x29_2) : Int) := of_decide_eq_true (by first | (with_reducible assumption) | assumption)
                                  have q339 : (rd t335 x29_2) < (x48_2.length : Int) := of_decide_eq_true (by first | (with_reducible assumption) | assumption)
                                  obtain ⟨ad339, e339, hx339_0⟩ := Kd.at_bool (Kd.R_reads' HO_48.out).2.2 (rd t335 x29_2) p339 q339
                                  (try rw [← Nbq28.out] at hx339_0)
                                  obtain rfl : (⟨go8, 0, none⟩ : Addr) = ad339 := (by injection e339)
                                  (first | simp only [add_plain] at hx339_0 | simp only [add_at] at hx339_0 | simp only [Addr.add, Nat.zero_add] at hx339_0 | skip)
                                  replace p339 := eq_true p339
                                  replace q339 := eq_true q339
                                  go_wp2
                                  (try simp only [← hl48_2])
                                  go_roundg k2
                                  case measure => have := HK1.out; have := HK2.out; omega
                                  case rel => exact ⟨(x7_2), (wrap64 (x29_2 + 1)), (x48_2), (by first | rfl | (simp; done) | (simp [*]; done)), H', ⟨by have := HK1.out; have := HK2.out; omega⟩, ⟨by (try simp only [hl48_1]); (try simp only [hl48_2]); (with_reducible repeat (first | apply Kd.R_alloc | apply Kd.R_drewN | apply Kd.R_drew)); exact HO_7.out⟩, ⟨by (try simp only [hl48_1]); (try simp only [hl48_2]); (with_reducible repeat (first | apply Kd.R_alloc | apply Kd.R_drewN | apply Kd.R_drew)); exact HO_27.out⟩, ⟨by (try simp only [hl48_1]); (try simp only [hl48_2]); (with_reducible repeat (first | apply Kd.R_alloc | apply Kd.R_drewN | apply Kd.R_drew)); exact HO_48.out⟩, ⟨by (try simp only [hl48_1]); (try simp only [hl48_2]); (with_reducible repeat (first | refine blk_drewN ?_ _ | refine blk_drew ?_ | refine blk_alloc ?_ _)); exact BK326.out⟩, ⟨by repeat (first | (with_reducible first | exact HB.out | apply below_alloc | apply pw_below_drewN | apply below_drew1 | refine below_set ?_ GE326.out) | exact HB.out)⟩⟩
                                · replace c29 := Bool.eq_false_iff.mpr c29
                                  subst c29
                                  have H1 : (if x7_2.length < 17592186044416 then (impl_spread.l1 k2 (x7_2 ++ [rd t335 x29_2]) x8_1 t335 (t335.length : Int) (wrap64 (x29_2 + 1)) (x48_2.set ((rd t335 x29_2) : Int).toNat true) a2_0 l2_1) else (none)) = some (r, s') := by rw [if_neg (show ¬ (false = true) by decide)] at H; exact H
                                  clear H
                                  have H := H1
                                  clear H1
                                  obtain ⟨y340, hy340⟩ : ∃ y_ : List Bool, y_ = (x48_2.set ((rd t335 x29_2) : Int).toNat true) := ⟨_, rfl⟩
                                  replace H : (if x7_2.length < 17592186044416 then (impl_spread.l1 k2 (x7_2 ++ [rd t335 x29_2]) x8_1 t335 (t335.length : Int) (wrap64 (x29_2 + 1)) y340 a2_0 l2_1) else (none)) = some (r, s') := by first | (rw [hy340]; with_reducible exact H) | (have H2_ := (Option.bind_some _ _).symm.trans H; rw [hy340]; with_reducible exact H2_) | (have H2_ := (Option.bind_some _ _).symm.trans H; with_reducible exact H2_) | with_reducible exact H | (rw [hy340]; exact H) | exact H
                                  have Ny340 := Aside0.mk hy340
                                  clear hy340
                                  by_cases c31 : x7_2.length < 17592186044416
                                  · rw [if_pos c31] at H
                                    have LMc31 := Aside0.mk c31
                                    clear c31
                                    obtain ⟨y341, hy341⟩ : ∃ y_ : List Int, y_ = (x7_2 ++ [rd t335 x29_2]) := ⟨_, rfl⟩
                                    replace H : (impl_spread.l1 k2 y341 x8_1 t335 (t335.length : Int) (wrap64 (x29_2 + 1)) y340 a2_0 l2_1) = some (r, s') := by first | (rw [hy341]; with_reducible exact H) | (have H2_ := (Option.bind_some _ _).symm.trans H; rw [hy341]; with_reducible exact H2_) | (have H2_ := (Option.bind_some _ _).symm.trans H; with_reducible exact H2_) | with_reducible exact H | (rw [hy341]; exact H) | exact H
                                    have Ny341 := Aside0.mk hy341
                                    clear hy341
                                    have H' := Aside0.mk H
                                    clear H
                                    have p338 : 0 ≤ (x29_2 : Int) := of_decide_eq_true (by first | (with_reducible assumption) | assumption)
                                    have q338 : x29_2 < (t335.length : Int) := of_decide_eq_true (by first | (with_reducible assumption) | assumption)
                                    obtain ⟨ad338, e338, hx338_0⟩ := Kd.at_int (Kd.R_reads' HO_27.out).2.2 x29_2 p338 q338
                                    cases e338
                                    replace p338 := eq_true p338
                                    replace q338 := eq_true q338
                                    have p339 : 0 ≤ ((rd t335 x29_2) : Int) := of_decide_eq_true (by first | (with_reducible assumption) | assumption)
                                    have q339 : (rd t335 x29_2) < (x48_2.length : Int) := of_decide_eq_true (by first | (with_reducible assumption) | assumption)
                                    obtain ⟨ad339, e339, hx339_0⟩ := Kd.at_bool (Kd.R_reads' HO_48.out).2.2 (rd t335 x29_2) p339 q339
                                    (try rw [← Nbq28.out] at hx339_0)
                                    obtain rfl : (⟨go8, 0, none⟩ : Addr) = ad339 := (by injection e339)
                                    (first | simp only [add_plain] at hx339_0 | simp only [add_at] at hx339_0 | simp only [Addr.add, Nat.zero_add] at hx339_0 | skip)
                                    replace p339 := eq_true p339
                                    replace q339 := eq_true q339
                                    have p30 : 0 ≤ ((rd t335 x29_2) : Int) := of_decide_eq_true (by first | (with_reducible assumption) | assumption)
                                    have q30 : ((rd t335 x29_2) : Int) < ((x48_2.length : Int) : Int) := of_decide_eq_true (by first | (with_reducible assumption) | assumption)
                                    obtain ⟨hx30_0, hf30_0⟩ := Kd.R_celln false HO_48.out ((rd t335 x29_2) : Int) p30 q30
                                    replace p30 := eq_true p30
                                    replace q30 := eq_true q30
                                    have HP32 := Kd.R_putg HO_48.out ((rd t335 x29_2) : Int) true
                                    go_wp2_with (first | ((with_reducible refine gate_store (t := 4) (p := 40) rfl ?_); refine store_event (t := 4) (p := 40) (v := ?vo_w33) (w1 := (wr.setCell ⟨go8, ((rd t335 x29_2) : Int).toNat, none⟩ (.bool true))) ?hg ?ho ?hn ?hr ?_; (case ho => rfl); (case hg => rfl); (case hn => rfl); (case hr => first | (go_simp; done) | (go_simp; rfl)); intro w33 hw; have hg : wr.grownBy w33 (some go8) := (by rw [hw]; exact HP32.2); have hp_ : Kd.R Kd.bool 4 w33 w0.heap.size (fun _ => True) (.slice (some ⟨go8, 0, none⟩) x48_2.length cs) y340 := (by rw [hw, Ny340.out]; exact HP32.1); clear HP32; have n0_ := Aside0.mk (Kd.R_over' (v := (.slice (some ⟨go8, 0, none⟩) x48_2.length cs)) (by (with_reducible repeat (first | apply Kd.R_alloc | apply Kd.R_drewN | apply Kd.R_drew)); exact HO_7.out) (Kd.R_typed HO_48.out) (by decide) hg); have n1_ := Aside0.mk (Kd.R_over' (v := (.slice (some ⟨go8, 0, none⟩) x48_2.length cs)) (by (with_reducible repeat (first | apply Kd.R_alloc | apply Kd.R_drewN | apply Kd.R_drew)); exact HO_27.out) (Kd.R_typed HO_48.out) (by decide) hg); have n2_ := Aside0.mk (hp_); have n3_ := Aside0.mk (blk_grown (g := gbA) (o := .cells #[.int .i64 a2_0, .slice A2_1 l2_1.length c2_1] 25 (0, 0)) (by (with_reducible repeat (first | refine blk_drewN ?_ _ | refine blk_drew ?_ | refine blk_alloc ?_ _)); exact BK326.out) hg (Kd.R_ne HO_48.out BK326.out (by decide))); have n4_ := Aside0.mk ((by rw [hw]; exact below_set (HB.out) GB8.out : Below w0.heap.size w0 w33)); clear HO_7; clear HO_27; clear HO_48; clear BK326; clear HB; have HO_7 := n0_; have HO_27 := n1_; have HO_48 := n2_; have BK326 := n3_; have HB := n4_; clear n0_ n1_ n2_ n3_ n4_; clear hg hw hp_) | ((with_reducible refine gate_builtin (b := .append) (xs := #[.tmp 41, .tmp 43]) rfl ?_); at_builtin; refine Kd.R_append (Kd.int .i64) (w0 := w0) w0.heap.size rfl (.tmp 41) (.tmp 43) 33 3 (.int .i64 0) 8 rfl Try.underlying33 info3 rfl (by decide) (by omega) u7 x7_2 (rd t335 x29_2) [.int .i64 (rd t335 x29_2)] (fun k_ => some k_ ≠ (.slice (some ad338) t335.length co22 : Value).ownBlock) (fun _ => False) rfl rfl ?aP (fun _ hk => hk.elim) ?aF ?aO ?aB ?aS ?aL ?_; (case aP => exact rfl); (case aB => exact (by repeat (first | (with_reducible first | exact HB.out | apply below_alloc | apply pw_below_drewN | apply below_drew1 | refine below_set ?_ GE326.out) | exact HB.out))); (case aF => exact (fun k_ hk => Kd.fresh' (Kd.R_lt (by (with_reducible repeat (first | apply Kd.R_alloc | apply Kd.R_drewN | apply Kd.R_drew)); exact HO_27.out)) k_ hk)); (case aO => exact (by (with_reducible repeat (first | apply Kd.R_alloc | apply Kd.R_drewN | apply Kd.R_drew)); exact HO_7.out)); (case aS => exact (below_size (by repeat (first | (with_reducible first | exact HB.out | apply below_alloc | apply pw_below_drewN | apply below_drew1 | refine below_set ?_ GE326.out) | exact HB.out)))); (case aL => have := LMc31.out; omega); intro v342 w34 ho hb hg hat; rw [← Ny341.out] at ho; have n0_ := Aside0.mk (Kd.R_after (ok := (fun _ => True)) (by (with_reducible repeat (first | apply Kd.R_alloc | apply Kd.R_drewN | apply Kd.R_drew)); exact Kd.R_mono HO_27.out (fun _ hk => ⟨trivial, hk⟩)) hg hat); have n1_ := Aside0.mk (Kd.R_over' (by (with_reducible repeat (first | apply Kd.R_alloc | apply Kd.R_drewN | apply Kd.R_drew)); exact HO_48.out) (Kd.R_typed (by (with_reducible repeat (first | apply Kd.R_alloc | apply Kd.R_drewN | apply Kd.R_drew)); exact HO_7.out)) (by decide) hg); have n2_ := Aside0.mk (blk_grown (g := gbA) (o := .cells #[.int .i64 a2_0, .slice A2_1 l2_1.length c2_1] 25 (0, 0)) (by (with_reducible repeat (first | refine blk_drewN ?_ _ | refine blk_drew ?_ | refine blk_alloc ?_ _)); exact BK326.out) hg (Kd.R_ne HO_7.out BK326.out (by decide))); have n3_ := Aside0.mk (hb); have n4_ := Aside0.mk (ho); clear HO_27; clear HO_48; clear BK326; clear HB; clear HO_7; have HO_27 := n0_; have HO_48 := n1_; have BK326 := n2_; have HB := n3_; have HO343 := n4_; clear n0_ n1_ n2_ n3_ n4_; clear ho hb hg hat))
                                    (try simp only [← hl48_2])
                                    go_roundg k2
                                    case measure => have := HK1.out; have := HK2.out; omega
                                    case rel => exact ⟨(y341), (wrap64 (x29_2 + 1)), (y340), (by first | rfl | (simp; done) | (simp [*]; done)), H', ⟨by have := HK1.out; have := HK2.out; omega⟩, ⟨by (try simp only [hl48_1]); (try simp only [hl48_2]); (with_reducible repeat (first | apply Kd.R_alloc | apply Kd.R_drewN | apply Kd.R_drew)); exact HO343.out⟩, ⟨by (try simp only [hl48_1]); (try simp only [hl48_2]); (with_reducible repeat (first | apply Kd.R_alloc | apply Kd.R_drewN | apply Kd.R_drew)); exact Kd.R_mono HO_27.out (fun _ hk => hk.2)⟩, ⟨by (try simp only [hl48_1]); (try simp only [hl48_2]); (with_reducible repeat (first | apply Kd.R_alloc | apply Kd.R_drewN | apply Kd.R_drew)); exact HO_48.out⟩, ⟨by (try simp only [hl48_1]); (try simp only [hl48_2]); (with_reducible repeat (first | refine blk_drewN ?_ _ | refine blk_drew ?_ | refine blk_alloc ?_ _)); exact BK326.out⟩, ⟨by repeat (first | (with_reducible first | exact HB.out | apply below_alloc | apply pw_below_drewN | apply below_drew1 | refine below_set ?_ GE326.out) | exact HB.out)⟩⟩
                                  · rw [if_neg c31] at H
                                    exact absurd H (by simp)
                              · rw [if_neg c27] at H
                                exact absurd H (by simp)
                            · rw [if_neg c26] at H
                              exact absurd H (by simp)
                          · rw [if_neg c25] at H
                            exact absurd H (by simp)
                        · rw [if_neg c24] at H
                          exact absurd H (by simp)
                      · rw [if_neg c23] at H
                        have c23b0 : decide (x29_2 < (t335.length : Int)) = false := decide_eq_false c23
                        clear c23
                        have H' := Aside0.mk H
                        clear H
                        go_wp2
                        (try simp only [← hl48_1, ← hl48_2])
                        go_roundg k2
                        case measure => have := HK1.out; have := HK2.out; omega
                        case rel => exact ⟨(x7_2), (wrap64 (x8_1 + 1)), (x48_2), (by first | rfl | (simp; done) | (simp [*]; done)), H', ⟨by have := HK1.out; have := HK2.out; omega⟩, ⟨by (try simp only [hl48_1]); (try simp only [hl48_2]); (with_reducible repeat (first | apply Kd.R_alloc | apply Kd.R_drewN | apply Kd.R_drew)); exact Kd.R_mono HO_7.out (fun _ hk => trivial)⟩, ⟨by (try simp only [hl48_1]); (try simp only [hl48_2]); (with_reducible repeat (first | apply Kd.R_alloc | apply Kd.R_drewN | apply Kd.R_drew)); exact HO_48.out⟩, ⟨by (try simp only [hl48_1]); (try simp only [hl48_2]); (with_reducible repeat (first | refine blk_drewN ?_ _ | refine blk_drew ?_ | refine blk_alloc ?_ _)); exact BK326.out⟩, ⟨by repeat (first | (with_reducible first | exact HB.out | apply below_alloc | apply pw_below_drewN | apply below_drew1 | refine below_set ?_ GE326.out) | exact HB.out)⟩⟩
                · rw [if_neg c17] at H
                  exact absurd H (by simp)
              · rw [if_neg c16] at H
                have c16b0 : decide (x8_1 < (x7_1.length : Int)) = false := decide_eq_false c16
                clear c16
                simp only [Option.some.injEq, Prod.mk.injEq] at H
                obtain ⟨rfl, rfl⟩ := H
                obtain ⟨Ao35, co35, eo35⟩ := Kd.R_slice HO_7.out
                subst eo35
                go_wp2
                go_ret
                exact ⟨by first | rfl | (simp [errW_none, errW_some] <;> rfl) | (simp [*, errW_none, errW_some] <;> rfl), HO_48.out, BK326.out, by repeat (first | (with_reducible first | exact HB.out | apply below_alloc | apply pw_below_drewN | apply below_drew1 | refine below_set ?_ GE326.out) | exact HB.out)⟩
        · rw [if_neg c7] at H
          exact absurd H (by simp)
      · rw [if_neg c6] at H
        exact absurd H (by simp)
    · rw [if_neg c5] at H
      exact absurd H (by simp)
  · rw [if_neg c4] at H
    exact absurd H (by simp)

end Go.Proofs.Ytjklkphhfkdkpaa.P
