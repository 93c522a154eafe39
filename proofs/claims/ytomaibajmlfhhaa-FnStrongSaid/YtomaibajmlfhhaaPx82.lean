-- PRINTED by print.py (a twelfth state) out of the translation. Not trusted: Lean checks it.
import Derived.Test.YtomaibajmlfhhaaPx0
import Derived.Test.YtomaibajmlfhhaaPx25
import Derived.Test.YtomaibajmlfhhaaPx38
import Derived.Test.YtomaibajmlfhhaaPx42
import Derived.Test.YtomaibajmlfhhaaPx78
import Derived.Test.YtomaibajmlfhhaaPx79
import Derived.Test.YtomaibajmlfhhaaPx81
namespace Go.Proofs.Ytomaibajmlfhhaa.P
open Go.RowKit Go.Proofs.YtomaibajmlfhhaaW.PrintWords Go.Proofs.YtomaibajmlfhhaaW.PrintLast Go.Proofs.YtomaibajmlfhhaaW.PrintMore
attribute [local go_sem] max2_int min2_int max_two min_two max_three min_three max_four min_four   -- for this text's walks alone
set_option linter.unusedVariables false
set_option linter.unusedSimpArgs false

/-! ### laws_FnStrong: function 13 -/
mutual
def laws_FnStrong.j0 : Nat → Int → Bool → Bool → Bool → Int → List (S34) → Option (Bool)
  | 0, _, _, _, _, _, _ => none
  | k + 1, x4, x5, x6, x32, x653000, x653001 => if x32 = true then (some (x5 == x6)) else ((impl_WayTurned.f k x653000 x653001 x4).bind fun bt655 => (laws_FnStrong.l0 k x4 bt655.1 bt655.2 0 x653000 x653001))
def laws_FnStrong.l0 : Nat → Int → Int → Bool → Int → Int → List (S34) → Option (Bool)
  | 0, _, _, _, _, _, _ => none
  | k + 1, x4, x7, x8, x9, x653000, x653001 => if x9 < x653000 then ((impl_WayReach.f k x653000 x653001 x4 x9).bind fun bt657 => (if bt657.2 = true then (if 0 ≤ x653000 then (if bt657.1 = (wrap64 ((shl .i64 1 x653000) - 1)) then (laws_FnStrong.l0 k x4 x7 x8 (wrap64 (x9 + 1)) x653000 x653001) else (some false)) else (none)) else (some false))) else (if x8 = true then ((impl_StrongIn.f k x653000 x653001 x7).bind fun t659 => (if t659 = true then ((impl_StrongFull.f k x653000 x653001 x4).bind fun t660 => (some t660)) else (some false))) else (some false))
end
def laws_FnStrong.f (k : Nat) (l0 : List Int) : Option (Bool) := if (l0.length : Int) > 1048576 then (some true) else ((spec_DrawStrongIn.f k l0).bind fun bt647 => ((impl_StrongIn.f k bt647.1 bt647.2.1 bt647.2.2).bind fun t653 => ((spec_StrongIn.f k bt647.1 bt647.2.1 bt647.2.2).bind fun t654 => (if (t653 != t654) = true then (laws_FnStrong.j0 k bt647.2.2 t653 t654 true bt647.1 bt647.2.1) else (laws_FnStrong.j0 k bt647.2.2 t653 t654 (!t653) bt647.1 bt647.2.1)))))
theorem laws_FnStrong.mono_l : ∀ k, (∀ y0 y1 y2 y3 y4 y5, LeO (laws_FnStrong.j0 k y0 y1 y2 y3 y4 y5) (laws_FnStrong.j0 (k + 1) y0 y1 y2 y3 y4 y5)) ∧ (∀ y0 y1 y2 y3 y4 y5, LeO (laws_FnStrong.l0 k y0 y1 y2 y3 y4 y5) (laws_FnStrong.l0 (k + 1) y0 y1 y2 y3 y4 y5))
  | 0 => ⟨fun _ _ _ _ _ _ r h => by simp [laws_FnStrong.j0] at h, fun _ _ _ _ _ _ r h => by simp [laws_FnStrong.l0] at h⟩
  | k + 1 => by
    obtain ⟨ih0, ih1⟩ := laws_FnStrong.mono_l k
    refine ⟨?_, ?_⟩
    · intro y0 y1 y2 y3 y4 y5
      unfold laws_FnStrong.j0
      repeat' first
      | (with_reducible exact ih0 _ _ _ _ _ _)
      | (with_reducible exact ih1 _ _ _ _ _ _)
      | (with_reducible exact impl_StrongFull.mono _ _ _ _)
      | (with_reducible exact impl_StrongIn.mono _ _ _ _)
      | (with_reducible exact impl_WayReach.mono _ _ _ _ _)
      | (with_reducible exact impl_WayTurned.mono _ _ _ _)
      | (with_reducible exact spec_DrawStrongIn.mono _ _)
      | (with_reducible exact spec_StrongIn.mono _ _ _ _)
      | (with_reducible exact LeO.refl _)
      | (with_reducible exact LeO.none _)
      | (with_reducible refine LeO.ite ?_ ?_)
      | (with_reducible refine LeO.bind ?_ (fun _ => ?_))
      | exact ih0 _ _ _ _ _ _
      | exact ih1 _ _ _ _ _ _
      | exact impl_StrongFull.mono _ _ _ _
      | exact impl_StrongIn.mono _ _ _ _
      | exact impl_WayReach.mono _ _ _ _ _
      | exact impl_WayTurned.mono _ _ _ _
      | exact spec_DrawStrongIn.mono _ _
      | exact spec_StrongIn.mono _ _ _ _
      | exact LeO.none _
      | refine LeO.ite ?_ ?_
      | refine LeO.bind ?_ (fun _ => ?_)
    · intro y0 y1 y2 y3 y4 y5
      unfold laws_FnStrong.l0
      repeat' first
      | (with_reducible exact ih0 _ _ _ _ _ _)
      | (with_reducible exact ih1 _ _ _ _ _ _)
      | (with_reducible exact impl_StrongFull.mono _ _ _ _)
      | (with_reducible exact impl_StrongIn.mono _ _ _ _)
      | (with_reducible exact impl_WayReach.mono _ _ _ _ _)
      | (with_reducible exact impl_WayTurned.mono _ _ _ _)
      | (with_reducible exact spec_DrawStrongIn.mono _ _)
      | (with_reducible exact spec_StrongIn.mono _ _ _ _)
      | (with_reducible exact LeO.refl _)
      | (with_reducible exact LeO.none _)
      | (with_reducible refine LeO.ite ?_ ?_)
      | (with_reducible refine LeO.bind ?_ (fun _ => ?_))
      | exact ih0 _ _ _ _ _ _
      | exact ih1 _ _ _ _ _ _
      | exact impl_StrongFull.mono _ _ _ _
      | exact impl_StrongIn.mono _ _ _ _
      | exact impl_WayReach.mono _ _ _ _ _
      | exact impl_WayTurned.mono _ _ _ _
      | exact spec_DrawStrongIn.mono _ _
      | exact spec_StrongIn.mono _ _ _ _
      | exact LeO.none _
      | refine LeO.ite ?_ ?_
      | refine LeO.bind ?_ (fun _ => ?_)
theorem laws_FnStrong.mono : ∀ a0 k, LeO (laws_FnStrong.f k a0) (laws_FnStrong.f (k + 1) a0) := by
  intro a0 k
  obtain ⟨ih0, ih1⟩ := laws_FnStrong.mono_l k
  unfold laws_FnStrong.f
  repeat' first
      | (with_reducible exact ih0 _ _ _ _ _ _)
      | (with_reducible exact ih1 _ _ _ _ _ _)
      | (with_reducible exact impl_StrongFull.mono _ _ _ _)
      | (with_reducible exact impl_StrongIn.mono _ _ _ _)
      | (with_reducible exact impl_WayReach.mono _ _ _ _ _)
      | (with_reducible exact impl_WayTurned.mono _ _ _ _)
      | (with_reducible exact spec_DrawStrongIn.mono _ _)
      | (with_reducible exact spec_StrongIn.mono _ _ _ _)
      | (with_reducible exact LeO.refl _)
      | (with_reducible exact LeO.none _)
      | (with_reducible refine LeO.ite ?_ ?_)
      | (with_reducible refine LeO.bind ?_ (fun _ => ?_))
      | exact ih0 _ _ _ _ _ _
      | exact ih1 _ _ _ _ _ _
      | exact impl_StrongFull.mono _ _ _ _
      | exact impl_StrongIn.mono _ _ _ _
      | exact impl_WayReach.mono _ _ _ _ _
      | exact impl_WayTurned.mono _ _ _ _
      | exact spec_DrawStrongIn.mono _ _
      | exact spec_StrongIn.mono _ _ _ _
      | exact LeO.none _
      | refine LeO.ite ?_ ?_
      | refine LeO.bind ?_ (fun _ => ?_)
set_option maxHeartbeats 8000000 in
set_option maxRecDepth 100000 in
theorem laws_FnStrong.calls (k : Nat) (A0 : Option Addr) (c0 : Nat) (l0 : List Int) (r : Bool) (w : World) (hr0 : Kd.C (Kd.int .u8) w A0 l0.length l0) (hc0 : l0.length ≤ c0) (h : laws_FnStrong.f k l0 = some r) :
    Calls Try.prog 13 #[.slice A0 l0.length c0] w fun e w' => e = .returned (.bool r) ∧ Below w.heap.size w w' := by
  have hu25 := Try.underlying25
  have HR0 := Aside0.mk hr0
  have HC0 := Aside0.mk hc0
  clear hr0 hc0
  have HB := Aside0.mk (Below.refl w.heap.size w)
  have H : (if (l0.length : Int) > 1048576 then (some true) else ((spec_DrawStrongIn.f k l0).bind fun bt647 => ((impl_StrongIn.f k bt647.1 bt647.2.1 bt647.2.2).bind fun t653 => ((spec_StrongIn.f k bt647.1 bt647.2.1 bt647.2.2).bind fun t654 => (if (t653 != t654) = true then (laws_FnStrong.j0 k bt647.2.2 t653 t654 true bt647.1 bt647.2.1) else (laws_FnStrong.j0 k bt647.2.2 t653 t654 (!t653) bt647.1 bt647.2.1)))))) = some r := h
  clear h
  by_cases c2 : (l0.length : Int) > 1048576
  · rw [if_pos c2] at H
    have c2b0 : decide (1048576 < (l0.length : Int)) = true := decide_eq_true c2
    have c2b1 : decide (1048576 < l0.length) = true := decide_eq_true (by omega)
    clear c2
    obtain rfl := Option.some.inj H
    go_enter Try.func13, Try.ntmps13
    go_wp2
    go_ret
    exact ⟨by first | rfl | (simp [errW_none, errW_some] <;> rfl) | (simp [*, errW_none, errW_some] <;> rfl), by repeat (first | (with_reducible first | exact HB.out | apply below_alloc | apply pw_below_drewN | apply below_drew1) | exact HB.out)⟩
  · rw [if_neg c2] at H
    have c2b0 : decide (1048576 < (l0.length : Int)) = false := decide_eq_false c2
    have c2b1 : decide (1048576 < l0.length) = false := decide_eq_false (by omega)
    clear c2
    replace H := Option.bind_eq_some_iff.mp H
    obtain ⟨⟨t647, t648, t651⟩, A30, H⟩ := H
    replace H : ((impl_StrongIn.f k t647 t648 t651).bind fun t653 => ((spec_StrongIn.f k t647 t648 t651).bind fun t654 => (if (t653 != t654) = true then (laws_FnStrong.j0 k t651 t653 t654 true t647 t648) else (laws_FnStrong.j0 k t651 t653 t654 (!t653) t647 t648)))) = some r := H
    have A3 := Aside0.mk A30
    clear A30
    replace H := Option.bind_eq_some_iff.mp H
    obtain ⟨t653, A40, H⟩ := H
    replace H : ((spec_StrongIn.f k t647 t648 t651).bind fun t654 => (if (t653 != t654) = true then (laws_FnStrong.j0 k t651 t653 t654 true t647 t648) else (laws_FnStrong.j0 k t651 t653 t654 (!t653) t647 t648))) = some r := H
    have A4 := Aside0.mk A40
    clear A40
    replace H := Option.bind_eq_some_iff.mp H
    obtain ⟨t654, A50, H⟩ := H
    replace H : (if (t653 != t654) = true then (laws_FnStrong.j0 k t651 t653 t654 true t647 t648) else (laws_FnStrong.j0 k t651 t653 t654 (!t653) t647 t648)) = some r := H
    have A5 := Aside0.mk A50
    clear A50
    have HC6 := Aside0.mk H
    clear H
    go_enter Try.func13, Try.ntmps13
    go_upto_region 6 with (first | ((with_reducible refine gate_callee (f := 51) rfl ?_); refine goesL_ (some 17) rfl rfl Try.func51 (by kernel_rfl) rfl #[.slice A0 l0.length c0] rfl (by (try simp only [List.map_toArray, List.map_cons, List.map_nil]); first | done | rfl | (simp only [List.length_drop, List.length_take]; rfl)) ?_; (with_reducible refine (spec_DrawStrongIn.calls k _ _ l0 t647 t648 t651 _ ?side1 ?side2 A3.out).mono ?_); (case side1 => repeat (first | exact HR0.out | (with_reducible refine Kd.C_alloc ?_ _) | (with_reducible refine Kd.C_drewN ?_ _) | (with_reducible refine Kd.C_drew ?_))); (case side2 => exact HC0.out); rintro e w7 ⟨v649, rfl, ho0, hb⟩; refine ⟨_, rfl, ?_⟩; have n0_ := Aside0.mk (Kd.R_lower ho0 (below_size (by repeat (first | (with_reducible first | exact HB.out | apply below_alloc | apply pw_below_drewN | apply below_drew1) | exact HB.out)))); have n1_ := Aside0.mk (below_step (by repeat (first | (with_reducible first | exact HB.out | apply below_alloc | apply pw_below_drewN | apply below_drew1) | exact HB.out)) hb); clear HB; have HO650 := n0_; have HB := n1_; clear n0_ n1_; (try clear hb); (try clear hb2); (try clear hk); (try clear hi); (try clear ho0)) | ((with_reducible refine gate_dst (N := 3) rfl ?_); refine box_event ?hg (N := 3) ?hd (cs := #[.int .i64 0, .slice none 0 0]) (t := 25) ?hr ?_; (case hd => rfl); (case hg => rfl); (case hr => first | (go_simp; done) | (go_simp; rfl)); intro gb652 hg w8 hbox hb; have n0_ := Aside0.mk (Kd.R_below (by (with_reducible repeat (first | apply Kd.R_alloc | apply Kd.R_drewN | apply Kd.R_drew)); exact HO650.out) hb); have n1_ := Aside0.mk (below_step (by repeat (first | (with_reducible first | exact HB.out | apply below_alloc | apply pw_below_drewN | apply below_drew1) | exact HB.out)) hb); have n2_ := Aside0.mk (hbox); have n3_ := Aside0.mk ((by rw [hg]; exact (below_size (by repeat (first | (with_reducible first | exact HB.out | apply below_alloc | apply pw_below_drewN | apply below_drew1) | exact HB.out))) : w.heap.size ≤ gb652)); have n4_ := Aside0.mk ((by rw [hg]; exact (below_size (by repeat (first | (with_reducible first | exact HB.out | apply below_alloc | apply pw_below_drewN | apply below_drew1) | exact HB.out))) : w.heap.size ≤ gb652)); clear HO650; clear HB; have HO650 := n0_; have HB := n1_; have BK652 := n2_; have GW652 := n3_; have GE652 := n4_; clear n0_ n1_ n2_ n3_ n4_; clear hb hbox hg; have hcz9_0 : w8.cell? ⟨gb652, 0, none⟩ = some (.int .i64 0) := (blk_cell BK652.out 0).trans rfl; have hcz9_1 : w8.cell? ⟨gb652, 1, none⟩ = some (.slice none 0 0) := (blk_cell BK652.out 1).trans rfl; have hfz9_0 := blk_frozen BK652.out 0; have hfz9_1 := blk_frozen BK652.out 1; obtain ⟨Ao10, co10, eo10⟩ := Kd.R_slice HO650.out; subst eo10) | ((with_reducible refine gate_callee (f := 28) rfl ?_); refine goesL_ (some 22) rfl rfl Try.func28 (by kernel_rfl) rfl #[.agg #[.int .i64 t647, .slice Ao10 t648.length co10], .int .i64 t651] rfl (by (try simp only [List.map_toArray, List.map_cons, List.map_nil]); first | done | rfl | (simp only [List.length_drop, List.length_take]; rfl)) ?_; (with_reducible refine (impl_StrongIn.calls k t647 _ _ t648 t651 t653 _ ?side1 ?side2 A4.out).mono ?_); (case side1 => refine (Kd.R_reads' (e := 34) (base := w.heap.size) (ok := fun k_ => True) (n := t648.length) (c := co10) ?_).2.2; exact (by (with_reducible repeat (first | apply Kd.R_alloc | apply Kd.R_drewN | apply Kd.R_drew)); exact (Kd.R_mono (Kd.R_far (p := ⟨gb652, 1, none⟩) (Kd.R_far (p := ⟨gb652, 0, none⟩) (Kd.R_types HO650.out BK652.out (by decide)) (fun _ hk => hk.2) (.int .i64 t647)) (fun _ hk => hk.2) (.slice Ao10 t648.length co10)) (fun _ h_ => h_.1)))); (case side2 => exact (Kd.R_reads' HO650.out).2.1); rintro e w11 ⟨rfl, hb⟩; refine ⟨_, rfl, ?_⟩; have n0_ := Aside0.mk (Kd.R_below (by (with_reducible repeat (first | apply Kd.R_alloc | apply Kd.R_drewN | apply Kd.R_drew)); exact (Kd.R_mono (Kd.R_far (p := ⟨gb652, 1, none⟩) (Kd.R_far (p := ⟨gb652, 0, none⟩) (Kd.R_types HO650.out BK652.out (by decide)) (fun _ hk => hk.2) (.int .i64 t647)) (fun _ hk => hk.2) (.slice Ao10 t648.length co10)) (fun _ h_ => h_.1))) hb); have n1_ := Aside0.mk (blk_below (g := gb652) (o := .cells #[.int .i64 t647, .slice Ao10 t648.length co10] 25 (0, 0)) (by (with_reducible repeat (first | refine blk_drewN ?_ _ | refine blk_drew ?_ | refine blk_alloc ?_ _)); refine blk_put (cs := #[.int .i64 t647, .slice none 0 0]) ?_ 1 _ rfl; (with_reducible repeat (first | refine blk_drewN ?_ _ | refine blk_drew ?_ | refine blk_alloc ?_ _)); refine blk_put (cs := #[.int .i64 0, .slice none 0 0]) ?_ 0 _ rfl; (with_reducible repeat (first | refine blk_drewN ?_ _ | refine blk_drew ?_ | refine blk_alloc ?_ _)); exact BK652.out) hb); have n2_ := Aside0.mk (below_step (by repeat (first | (with_reducible first | exact HB.out | apply below_alloc | apply pw_below_drewN | apply below_drew1 | refine below_set ?_ GE652.out) | exact HB.out)) hb); clear HO650; clear BK652; clear HB; have HO650 := n0_; have BK652 := n1_; have HB := n2_; clear n0_ n1_ n2_; (try clear hb); (try clear hb2); (try clear hk); (try clear hi); have hcz12_0 : w11.cell? ⟨gb652, 0, none⟩ = some (.int .i64 t647) := (blk_cell BK652.out 0).trans rfl; have hcz12_1 : w11.cell? ⟨gb652, 1, none⟩ = some (.slice Ao10 t648.length co10) := (blk_cell BK652.out 1).trans rfl; have hfz12_0 := blk_frozen BK652.out 0; have hfz12_1 := blk_frozen BK652.out 1) | ((with_reducible refine gate_callee (f := 52) rfl ?_); refine goesL_ (some 25) rfl rfl Try.func52 (by kernel_rfl) rfl #[.agg #[.int .i64 t647, .slice Ao10 t648.length co10], .int .i64 t651] rfl (by (try simp only [List.map_toArray, List.map_cons, List.map_nil]); first | done | rfl | (simp only [List.length_drop, List.length_take]; rfl)) ?_; (with_reducible refine (spec_StrongIn.calls k t647 _ _ t648 t651 t654 _ ?side1 ?side2 A5.out).mono ?_); (case side1 => repeat (first | exact (Kd.R_reads' HO650.out).2.2 | (with_reducible refine Kd.C_alloc ?_ _) | (with_reducible refine Kd.C_drewN ?_ _) | (with_reducible refine Kd.C_drew ?_))); (case side2 => exact (Kd.R_reads' HO650.out).2.1); rintro e w13 ⟨rfl, hb⟩; refine ⟨_, rfl, ?_⟩; have n0_ := Aside0.mk (Kd.R_below (by (with_reducible repeat (first | apply Kd.R_alloc | apply Kd.R_drewN | apply Kd.R_drew)); exact HO650.out) hb); have n1_ := Aside0.mk (blk_below (g := gb652) (o := .cells #[.int .i64 t647, .slice Ao10 t648.length co10] 25 (0, 0)) (by (with_reducible repeat (first | refine blk_drewN ?_ _ | refine blk_drew ?_ | refine blk_alloc ?_ _)); exact BK652.out) hb); have n2_ := Aside0.mk (below_step (by repeat (first | (with_reducible first | exact HB.out | apply below_alloc | apply pw_below_drewN | apply below_drew1 | refine below_set ?_ GE652.out) | exact HB.out)) hb); clear HO650; clear BK652; clear HB; have HO650 := n0_; have BK652 := n1_; have HB := n2_; clear n0_ n1_ n2_; (try clear hb); (try clear hb2); (try clear hk); (try clear hi)))
    (try simp only [Act.put, List.setIfInBounds_toArray, List.set_cons_zero, List.set_cons_succ])
    go_cut [32] (fun v32 wc => ∃ (kq : Nat) (x32_5 : Bool), v32 = .bool x32_5 ∧ Aside0 (laws_FnStrong.j0 kq t651 t653 t654 x32_5 t647 t648 = some r) ∧ Aside0 (kq ≤ k) ∧ Aside0 (Kd.R k34 34 wc w.heap.size (fun _ => True) (.slice Ao10 t648.length co10) t648) ∧ Aside0 (wc.heap[gb652]? = some (.cells #[.int .i64 t647, (.slice Ao10 t648.length co10)] 25 (0, 0))) ∧ Aside0 (Below w.heap.size w wc))
    case first =>
      have H := HC6.out
      clear HC6
      by_cases c14 : (t653 != t654) = true
      · rw [if_pos c14] at H
        have c14b0 : (t653 != t654) = true := c14
        (try (have c14b1 : decide (t653 = t654) = false := by simpa using c14))
        (try (have c14b2 : (t653 == t654) = false := by simpa using c14))
        (try (have c14b3 : ¬ (t653 = t654) := by simpa using c14))
        clear c14
        (first | rw [c14b0] | (simp only [i64_w, i32_w]; rw [c14b0]) | skip)
        have H' := Aside0.mk H
        clear H
        go_wp2
        go_meet
        case rel => exact ⟨_, (true), (by first | rfl | (simp; done) | (simp [*]; done)), H', ⟨by first | omega | exact Nat.le_refl _⟩, ⟨by (with_reducible repeat (first | apply Kd.R_alloc | apply Kd.R_drewN | apply Kd.R_drew)); exact HO650.out⟩, ⟨by (with_reducible repeat (first | refine blk_drewN ?_ _ | refine blk_drew ?_ | refine blk_alloc ?_ _)); exact BK652.out⟩, ⟨by repeat (first | (with_reducible first | exact HB.out | apply below_alloc | apply pw_below_drewN | apply below_drew1 | refine below_set ?_ GE652.out) | exact HB.out)⟩⟩
      · rw [if_neg c14] at H
        have c14b0 : (t653 != t654) = false := by simpa using c14
        (try (have c14b1 : decide (t653 = t654) = true := by simpa using c14))
        (try (have c14b2 : (t653 == t654) = true := by simpa using c14))
        clear c14
        (first | rw [c14b0] | (simp only [i64_w, i32_w]; rw [c14b0]) | skip)
        have H' := Aside0.mk H
        clear H
        go_wp2
        go_meet
        case rel => exact ⟨_, (!t653), (by first | rfl | (simp; done) | (simp [*]; done)), H', ⟨by first | omega | exact Nat.le_refl _⟩, ⟨by (with_reducible repeat (first | apply Kd.R_alloc | apply Kd.R_drewN | apply Kd.R_drew)); exact HO650.out⟩, ⟨by (with_reducible repeat (first | refine blk_drewN ?_ _ | refine blk_drew ?_ | refine blk_alloc ?_ _)); exact BK652.out⟩, ⟨by repeat (first | (with_reducible first | exact HB.out | apply below_alloc | apply pw_below_drewN | apply below_drew1 | refine below_set ?_ GE652.out) | exact HB.out)⟩⟩
    case rest =>
      clear HC6
      try clear c1
      try clear c2
      try clear c2b0
      try clear c2b1
      try clear p2
      try clear c5
      try clear c13
      try clear c14
      try clear c14b0
      try clear c14b1
      try clear c14b2
      try clear hcz12_0
      try clear hcz12_1
      try clear hcz9_0
      try clear hcz9_1
      try clear hfz12_0
      try clear hfz12_1
      try clear hfz9_0
      try clear hfz9_1
      obtain ⟨kq, x32_5, rfl, HA, HJ5, HO_653001, BK652, HB⟩ := hcut
      cases kq with
      | zero => exact absurd HA.out (by simp [laws_FnStrong.j0])
      | succ kj5 =>
        have H := HA.out
        clear HA
        simp only [laws_FnStrong.j0] at H
        by_cases c15 : x32_5 = true
        · subst c15
          have H1 : (some (t653 == t654)) = some r := by rw [if_pos rfl] at H; exact H
          clear H
          have H := H1
          clear H1
          obtain rfl := Option.some.inj H
          go_wp2
          go_ret
          exact ⟨by first | rfl | (simp [errW_none, errW_some] <;> rfl) | (simp [*, errW_none, errW_some] <;> rfl), by repeat (first | (with_reducible first | exact HB.out | apply below_alloc | apply pw_below_drewN | apply below_drew1 | refine below_set ?_ GE652.out) | exact HB.out)⟩
        · replace c15 := Bool.eq_false_iff.mpr c15
          subst c15
          have H1 : ((impl_WayTurned.f kj5 t647 t648 t651).bind fun bt655 => (laws_FnStrong.l0 kj5 t651 bt655.1 bt655.2 0 t647 t648)) = some r := by rw [if_neg (show ¬ (false = true) by decide)] at H; exact H
          clear H
          have H := H1
          clear H1
          replace H := Option.bind_eq_some_iff.mp H
          obtain ⟨⟨t655, t656⟩, A160, H⟩ := H
          replace H : (laws_FnStrong.l0 kj5 t651 t655 t656 0 t647 t648) = some r := H
          have A16 := Aside0.mk A160
          clear A160
          have H' := Aside0.mk H
          clear H
          have hcz17_0 : wc.cell? ⟨gb652, 0, none⟩ = some (.int .i64 t647) := (blk_cell BK652.out 0).trans rfl
          have hcz17_1 : wc.cell? ⟨gb652, 1, none⟩ = some (.slice Ao10 t648.length co10) := (blk_cell BK652.out 1).trans rfl
          have hfz17_0 := blk_frozen BK652.out 0
          have hfz17_1 := blk_frozen BK652.out 1
          go_wp2_with (first | ((with_reducible refine gate_callee (f := 32) rfl ?_); refine goesL_ (some 39) rfl rfl Try.func32 (by kernel_rfl) rfl #[.agg #[.int .i64 t647, .slice Ao10 t648.length co10], .int .i64 t651] rfl (by (try simp only [List.map_toArray, List.map_cons, List.map_nil]); first | done | rfl | (simp only [List.length_drop, List.length_take]; rfl)) ?_; (with_reducible refine (impl_WayTurned.calls kj5 t647 _ _ t648 t651 t655 t656 _ ?side1 ?side2 A16.out).mono ?_); (case side1 => repeat (first | exact (Kd.R_reads' HO_653001.out).2.2 | (with_reducible refine Kd.C_alloc ?_ _) | (with_reducible refine Kd.C_drewN ?_ _) | (with_reducible refine Kd.C_drew ?_))); (case side2 => exact (Kd.R_reads' HO_653001.out).2.1); rintro e w18 ⟨rfl, hb⟩; refine ⟨_, rfl, ?_⟩; have n0_ := Aside0.mk (Kd.R_below (by (with_reducible repeat (first | apply Kd.R_alloc | apply Kd.R_drewN | apply Kd.R_drew)); exact HO_653001.out) hb); have n1_ := Aside0.mk (blk_below (g := gb652) (o := .cells #[.int .i64 t647, .slice Ao10 t648.length co10] 25 (0, 0)) (by (with_reducible repeat (first | refine blk_drewN ?_ _ | refine blk_drew ?_ | refine blk_alloc ?_ _)); exact BK652.out) hb); have n2_ := Aside0.mk (below_step (by repeat (first | (with_reducible first | exact HB.out | apply below_alloc | apply pw_below_drewN | apply below_drew1 | refine below_set ?_ GE652.out) | exact HB.out)) hb); clear HO_653001; clear BK652; clear HB; have HO_653001 := n0_; have BK652 := n1_; have HB := n2_; clear n0_ n1_ n2_; (try clear hb); (try clear hb2); (try clear hk); (try clear hi)))
          go_loopg [9] kj5 (fun kq v9 w' => ∃ (x9_2 : Int), v9 = .int .i64 x9_2 ∧ Aside0 (laws_FnStrong.l0 kq t651 t655 t656 x9_2 t647 t648 = some r) ∧ Aside0 (kq ≤ kj5) ∧ Aside0 (Kd.R k34 34 w' w.heap.size (fun _ => True) (.slice Ao10 t648.length co10) t648) ∧ Aside0 (w'.heap[gb652]? = some (.cells #[.int .i64 t647, (.slice Ao10 t648.length co10)] 25 (0, 0))) ∧ Aside0 (Below w.heap.size w w'))
          case atStart => exact ⟨(0), (by first | rfl | (simp; done) | (simp [*]; done)), H', ⟨Nat.le_refl _⟩, ⟨by (with_reducible repeat (first | apply Kd.R_alloc | apply Kd.R_drewN | apply Kd.R_drew)); exact HO_653001.out⟩, ⟨by (with_reducible repeat (first | refine blk_drewN ?_ _ | refine blk_drew ?_ | refine blk_alloc ?_ _)); exact BK652.out⟩, ⟨by repeat (first | (with_reducible first | exact HB.out | apply below_alloc | apply pw_below_drewN | apply below_drew1 | refine below_set ?_ GE652.out) | exact HB.out)⟩⟩
          case round =>
            clear H'
            try clear c1
            try clear c2
            try clear c2b0
            try clear c2b1
            try clear p2
            try clear c3
            try clear c5
            try clear c13
            try clear c14
            try clear c14b0
            try clear c14b1
            try clear c14b2
            try clear c15
            try clear hcz12_0
            try clear hcz12_1
            try clear hcz17_0
            try clear hcz17_1
            try clear hcz9_0
            try clear hcz9_1
            try clear hfz12_0
            try clear hfz12_1
            try clear hfz17_0
            try clear hfz17_1
            try clear hfz9_0
            try clear hfz9_1
            try clear p2
            obtain ⟨x9_2, rfl, HA, HK2, HO_653001, BK652, HB⟩ := hrel
            cases gk with
            | zero => exact absurd HA.out (by simp [laws_FnStrong.l0])
            | succ k2 =>
              have H := HA.out
              clear HA
              simp only [laws_FnStrong.l0] at H
              by_cases c19 : x9_2 < t647
              · rw [if_pos c19] at H
                have c19b0 : decide (x9_2 < t647) = true := decide_eq_true c19
                clear c19
                replace H := Option.bind_eq_some_iff.mp H
                obtain ⟨⟨t657, t658⟩, A200, H⟩ := H
                replace H : (if t658 = true then (if 0 ≤ t647 then (if t657 = (wrap64 ((shl .i64 1 t647) - 1)) then (laws_FnStrong.l0 k2 t651 t655 t656 (wrap64 (x9_2 + 1)) t647 t648) else (some false)) else (none)) else (some false)) = some r := H
                have A20 := Aside0.mk A200
                clear A200
                by_cases c21 : t658 = true
                · subst c21
                  have H1 : (if 0 ≤ t647 then (if t657 = (wrap64 ((shl .i64 1 t647) - 1)) then (laws_FnStrong.l0 k2 t651 t655 t656 (wrap64 (x9_2 + 1)) t647 t648) else (some false)) else (none)) = some r := by rw [if_pos rfl] at H; exact H
                  clear H
                  have H := H1
                  clear H1
                  by_cases c22 : 0 ≤ t647
                  · rw [if_pos c22] at H
                    have c22b0 := eq_true c22
                    have c22b1 : decide (0 ≤ t647) = true := decide_eq_true c22
                    clear c22
                    obtain ⟨ji23, hji23⟩ : ∃ j_ : Int, (shl .i64 1 t647) = j_ := ⟨_, rfl⟩
                    replace H : (if t657 = (wrap64 ((ji23) - 1)) then (laws_FnStrong.l0 k2 t651 t655 t656 (wrap64 (x9_2 + 1)) t647 t648) else (some false)) = some r := by first | (rw [hji23] at H; exact H) | (simp only [hji23] at H ⊢; exact H)
                    (try rw [hji23] at A20)
                    have hji23_ : (IntKind.i64.wrap (1 * 2 ^ min t647.toNat 64)) = ji23 := hji23
                    have hji23z : t647 ≤ 64 → (IntKind.i64.wrap (1 * 2 ^ t647.toNat)) = ji23 := shl_small hji23
                    have hji23u : (IntKind.i64.wrap (2 ^ min t647.toNat 64)) = ji23 := by have h_ := hji23_; rw [Int.one_mul] at h_; exact h_
                    have hji23v : t647 ≤ 64 → (IntKind.i64.wrap (2 ^ t647.toNat)) = ji23 := fun hle_ => by have h_ := hji23z hle_; rw [Int.one_mul] at h_; exact h_
                    have hji23y : (wrap64 (1 * 2 ^ min t647.toNat 64)) = ji23 := (i64_w _).symm.trans hji23_
                    have hji23x : t647 ≤ 64 → (wrap64 (1 * 2 ^ t647.toNat)) = ji23 := fun h_ => (i64_w _).symm.trans (hji23z h_)
                    by_cases c24 : t657 = (wrap64 ((ji23) - 1))
                    · rw [if_pos c24] at H
                      have c24b0 : (t657 == (wrap64 ((ji23) - 1))) = true := beq_iff_eq.mpr c24
                      have c24b1 : (t657 != (wrap64 ((ji23) - 1))) = false := bne_eq_false_iff_eq.mpr c24
                      clear c24
                      have H' := Aside0.mk H
                      clear H
                      have hcz25_0 : wr.cell? ⟨gb652, 0, none⟩ = some (.int .i64 t647) := (blk_cell BK652.out 0).trans rfl
                      have hcz25_1 : wr.cell? ⟨gb652, 1, none⟩ = some (.slice Ao10 t648.length co10) := (blk_cell BK652.out 1).trans rfl
                      have hfz25_0 := blk_frozen BK652.out 0
                      have hfz25_1 := blk_frozen BK652.out 1
                      go_wp2_with (first | ((with_reducible refine gate_callee (f := 20) rfl ?_); refine goesL_ (some 52) rfl rfl Try.func20 (by kernel_rfl) rfl #[.agg #[.int .i64 t647, .slice Ao10 t648.length co10], .int .i64 t651, .int .i64 x9_2] rfl (by (try simp only [List.map_toArray, List.map_cons, List.map_nil]); first | done | rfl | (simp only [List.length_drop, List.length_take]; rfl)) ?_; (with_reducible refine (impl_WayReach.calls k2 t647 _ _ t648 t651 x9_2 t657 true _ ?side1 ?side2 A20.out).mono ?_); (case side1 => repeat (first | exact (Kd.R_reads' HO_653001.out).2.2 | (with_reducible refine Kd.C_alloc ?_ _) | (with_reducible refine Kd.C_drewN ?_ _) | (with_reducible refine Kd.C_drew ?_))); (case side2 => exact (Kd.R_reads' HO_653001.out).2.1); rintro e w26 ⟨rfl, hb⟩; refine ⟨_, rfl, ?_⟩; have n0_ := Aside0.mk (Kd.R_below (by (with_reducible repeat (first | apply Kd.R_alloc | apply Kd.R_drewN | apply Kd.R_drew)); exact HO_653001.out) hb); have n1_ := Aside0.mk (blk_below (g := gb652) (o := .cells #[.int .i64 t647, .slice Ao10 t648.length co10] 25 (0, 0)) (by (with_reducible repeat (first | refine blk_drewN ?_ _ | refine blk_drew ?_ | refine blk_alloc ?_ _)); exact BK652.out) hb); have n2_ := Aside0.mk (below_step (by repeat (first | (with_reducible first | exact HB.out | apply below_alloc | apply pw_below_drewN | apply below_drew1 | refine below_set ?_ GE652.out) | exact HB.out)) hb); clear HO_653001; clear BK652; clear HB; have HO_653001 := n0_; have BK652 := n1_; have HB := n2_; clear n0_ n1_ n2_; (try clear hb); (try clear hb2); (try clear hk); (try clear hi); have hcz27_0 : w26.cell? ⟨gb652, 0, none⟩ = some (.int .i64 t647) := (blk_cell BK652.out 0).trans rfl; have hcz27_1 : w26.cell? ⟨gb652, 1, none⟩ = some (.slice Ao10 t648.length co10) := (blk_cell BK652.out 1).trans rfl; have hfz27_0 := blk_frozen BK652.out 0; have hfz27_1 := blk_frozen BK652.out 1))
                      go_roundg k2
                      case measure => have := HJ5.out; have := HK2.out; omega
                      case rel => exact ⟨(wrap64 (x9_2 + 1)), (by first | rfl | (simp; done) | (simp [*]; done)), H', ⟨by have := HJ5.out; have := HK2.out; omega⟩, ⟨by (with_reducible repeat (first | apply Kd.R_alloc | apply Kd.R_drewN | apply Kd.R_drew)); exact HO_653001.out⟩, ⟨by (with_reducible repeat (first | refine blk_drewN ?_ _ | refine blk_drew ?_ | refine blk_alloc ?_ _)); exact BK652.out⟩, ⟨by repeat (first | (with_reducible first | exact HB.out | apply below_alloc | apply pw_below_drewN | apply below_drew1 | refine below_set ?_ GE652.out) | exact HB.out)⟩⟩
                    · rw [if_neg c24] at H
                      have c24b0 : (t657 == (wrap64 ((ji23) - 1))) = false := beq_eq_false_iff_ne.mpr c24
                      have c24b1 : (t657 != (wrap64 ((ji23) - 1))) = true := bne_iff_ne.mpr c24
                      obtain rfl := Option.some.inj H
                      have hcz28_0 : wr.cell? ⟨gb652, 0, none⟩ = some (.int .i64 t647) := (blk_cell BK652.out 0).trans rfl
                      have hcz28_1 : wr.cell? ⟨gb652, 1, none⟩ = some (.slice Ao10 t648.length co10) := (blk_cell BK652.out 1).trans rfl
                      have hfz28_0 := blk_frozen BK652.out 0
                      have hfz28_1 := blk_frozen BK652.out 1
                      go_wp2_with (first | ((with_reducible refine gate_callee (f := 20) rfl ?_); refine goesL_ (some 52) rfl rfl Try.func20 (by kernel_rfl) rfl #[.agg #[.int .i64 t647, .slice Ao10 t648.length co10], .int .i64 t651, .int .i64 x9_2] rfl (by (try simp only [List.map_toArray, List.map_cons, List.map_nil]); first | done | rfl | (simp only [List.length_drop, List.length_take]; rfl)) ?_; (with_reducible refine (impl_WayReach.calls k2 t647 _ _ t648 t651 x9_2 t657 true _ ?side1 ?side2 A20.out).mono ?_); (case side1 => repeat (first | exact (Kd.R_reads' HO_653001.out).2.2 | (with_reducible refine Kd.C_alloc ?_ _) | (with_reducible refine Kd.C_drewN ?_ _) | (with_reducible refine Kd.C_drew ?_))); (case side2 => exact (Kd.R_reads' HO_653001.out).2.1); rintro e w29 ⟨rfl, hb⟩; refine ⟨_, rfl, ?_⟩; have n0_ := Aside0.mk (Kd.R_below (by (with_reducible repeat (first | apply Kd.R_alloc | apply Kd.R_drewN | apply Kd.R_drew)); exact HO_653001.out) hb); have n1_ := Aside0.mk (blk_below (g := gb652) (o := .cells #[.int .i64 t647, .slice Ao10 t648.length co10] 25 (0, 0)) (by (with_reducible repeat (first | refine blk_drewN ?_ _ | refine blk_drew ?_ | refine blk_alloc ?_ _)); exact BK652.out) hb); have n2_ := Aside0.mk (below_step (by repeat (first | (with_reducible first | exact HB.out | apply below_alloc | apply pw_below_drewN | apply below_drew1 | refine below_set ?_ GE652.out) | exact HB.out)) hb); clear HO_653001; clear BK652; clear HB; have HO_653001 := n0_; have BK652 := n1_; have HB := n2_; clear n0_ n1_ n2_; (try clear hb); (try clear hb2); (try clear hk); (try clear hi); have hcz30_0 : w29.cell? ⟨gb652, 0, none⟩ = some (.int .i64 t647) := (blk_cell BK652.out 0).trans rfl; have hcz30_1 : w29.cell? ⟨gb652, 1, none⟩ = some (.slice Ao10 t648.length co10) := (blk_cell BK652.out 1).trans rfl; have hfz30_0 := blk_frozen BK652.out 0; have hfz30_1 := blk_frozen BK652.out 1))
                      go_ret
                      exact ⟨by first | rfl | (simp [errW_none, errW_some] <;> rfl) | (simp only [← hji23]; first | rfl | (simp [errW_none, errW_some] <;> rfl)) | (simp [*, errW_none, errW_some] <;> rfl), by repeat (first | (with_reducible first | exact HB.out | apply below_alloc | apply pw_below_drewN | apply below_drew1 | refine below_set ?_ GE652.out) | exact HB.out)⟩
                  · rw [if_neg c22] at H
                    exact absurd H (by simp)
                · replace c21 := Bool.eq_false_iff.mpr c21
                  subst c21
                  have H1 : (some false) = some r := by rw [if_neg (show ¬ (false = true) by decide)] at H; exact H
                  clear H
                  have H := H1
                  clear H1
                  obtain rfl := Option.some.inj H
                  have hcz31_0 : wr.cell? ⟨gb652, 0, none⟩ = some (.int .i64 t647) := (blk_cell BK652.out 0).trans rfl
                  have hcz31_1 : wr.cell? ⟨gb652, 1, none⟩ = some (.slice Ao10 t648.length co10) := (blk_cell BK652.out 1).trans rfl
                  have hfz31_0 := blk_frozen BK652.out 0
                  have hfz31_1 := blk_frozen BK652.out 1
                  go_wp2_with (first | ((with_reducible refine gate_callee (f := 20) rfl ?_); refine goesL_ (some 52) rfl rfl Try.func20 (by kernel_rfl) rfl #[.agg #[.int .i64 t647, .slice Ao10 t648.length co10], .int .i64 t651, .int .i64 x9_2] rfl (by (try simp only [List.map_toArray, List.map_cons, List.map_nil]); first | done | rfl | (simp only [List.length_drop, List.length_take]; rfl)) ?_; (with_reducible refine (impl_WayReach.calls k2 t647 _ _ t648 t651 x9_2 t657 false _ ?side1 ?side2 A20.out).mono ?_); (case side1 => repeat (first | exact (Kd.R_reads' HO_653001.out).2.2 | (with_reducible refine Kd.C_alloc ?_ _) | (with_reducible refine Kd.C_drewN ?_ _) | (with_reducible refine Kd.C_drew ?_))); (case side2 => exact (Kd.R_reads' HO_653001.out).2.1); rintro e w32 ⟨rfl, hb⟩; refine ⟨_, rfl, ?_⟩; have n0_ := Aside0.mk (Kd.R_below (by (with_reducible repeat (first | apply Kd.R_alloc | apply Kd.R_drewN | apply Kd.R_drew)); exact HO_653001.out) hb); have n1_ := Aside0.mk (blk_below (g := gb652) (o := .cells #[.int .i64 t647, .slice Ao10 t648.length co10] 25 (0, 0)) (by (with_reducible repeat (first | refine blk_drewN ?_ _ | refine blk_drew ?_ | refine blk_alloc ?_ _)); exact BK652.out) hb); have n2_ := Aside0.mk (below_step (by repeat (first | (with_reducible first | exact HB.out | apply below_alloc | apply pw_below_drewN | apply below_drew1 | refine below_set ?_ GE652.out) | exact HB.out)) hb); clear HO_653001; clear BK652; clear HB; have HO_653001 := n0_; have BK652 := n1_; have HB := n2_; clear n0_ n1_ n2_; (try clear hb); (try clear hb2); (try clear hk); (try clear hi)))
                  go_ret
                  exact ⟨by first | rfl | (simp [errW_none, errW_some] <;> rfl) | (simp [*, errW_none, errW_some] <;> rfl), by repeat (first | (with_reducible first | exact HB.out | apply below_alloc | apply pw_below_drewN | apply below_drew1 | refine below_set ?_ GE652.out) | exact HB.out)⟩
              · rw [if_neg c19] at H
                have c19b0 : decide (x9_2 < t647) = false := decide_eq_false c19
                clear c19
                by_cases c33 : t656 = true
                · subst c33
                  have H1 : ((impl_StrongIn.f k2 t647 t648 t655).bind fun t659 => (if t659 = true then ((impl_StrongFull.f k2 t647 t648 t651).bind fun t660 => (some t660)) else (some false))) = some r := by rw [if_pos rfl] at H; exact H
                  clear H
                  have H := H1
                  clear H1
                  replace H := Option.bind_eq_some_iff.mp H
                  obtain ⟨t659, A340, H⟩ := H
                  replace H : (if t659 = true then ((impl_StrongFull.f k2 t647 t648 t651).bind fun t660 => (some t660)) else (some false)) = some r := H
                  have A34 := Aside0.mk A340
                  clear A340
                  by_cases c35 : t659 = true
                  · subst c35
                    have H1 : ((impl_StrongFull.f k2 t647 t648 t651).bind fun t660 => (some t660)) = some r := by rw [if_pos rfl] at H; exact H
                    clear H
                    have H := H1
                    clear H1
                    replace H := Option.bind_eq_some_iff.mp H
                    obtain ⟨t660, A360, H⟩ := H
                    replace H : (some t660) = some r := H
                    have A36 := Aside0.mk A360
                    clear A360
                    obtain rfl := Option.some.inj H
                    have hcz37_0 : wr.cell? ⟨gb652, 0, none⟩ = some (.int .i64 t647) := (blk_cell BK652.out 0).trans rfl
                    have hcz37_1 : wr.cell? ⟨gb652, 1, none⟩ = some (.slice Ao10 t648.length co10) := (blk_cell BK652.out 1).trans rfl
                    have hfz37_0 := blk_frozen BK652.out 0
                    have hfz37_1 := blk_frozen BK652.out 1
                    go_wp2_with (first | (go_at_call 28; (with_reducible refine (impl_StrongIn.calls k2 t647 _ _ t648 t655 true _ ?side1 ?side2 A34.out).mono ?_); (case side1 => repeat (first | exact (Kd.R_reads' HO_653001.out).2.2 | (with_reducible refine Kd.C_alloc ?_ _) | (with_reducible refine Kd.C_drewN ?_ _) | (with_reducible refine Kd.C_drew ?_))); (case side2 => exact (Kd.R_reads' HO_653001.out).2.1); rintro e w38 ⟨rfl, hb⟩; have n0_ := Aside0.mk (Kd.R_below (by (with_reducible repeat (first | apply Kd.R_alloc | apply Kd.R_drewN | apply Kd.R_drew)); exact HO_653001.out) hb); have n1_ := Aside0.mk (blk_below (g := gb652) (o := .cells #[.int .i64 t647, .slice Ao10 t648.length co10] 25 (0, 0)) (by (with_reducible repeat (first | refine blk_drewN ?_ _ | refine blk_drew ?_ | refine blk_alloc ?_ _)); exact BK652.out) hb); have n2_ := Aside0.mk (below_step (by repeat (first | (with_reducible first | exact HB.out | apply below_alloc | apply pw_below_drewN | apply below_drew1 | refine below_set ?_ GE652.out) | exact HB.out)) hb); clear HO_653001; clear BK652; clear HB; have HO_653001 := n0_; have BK652 := n1_; have HB := n2_; clear n0_ n1_ n2_; (try clear hb); (try clear hb2); (try clear hk); (try clear hi); have hcz39_0 : w38.cell? ⟨gb652, 0, none⟩ = some (.int .i64 t647) := (blk_cell BK652.out 0).trans rfl; have hcz39_1 : w38.cell? ⟨gb652, 1, none⟩ = some (.slice Ao10 t648.length co10) := (blk_cell BK652.out 1).trans rfl; have hfz39_0 := blk_frozen BK652.out 0; have hfz39_1 := blk_frozen BK652.out 1) | (go_at_call 53; (with_reducible refine (impl_StrongFull.calls k2 t647 _ _ t648 t651 t660 _ ?side1 ?side2 A36.out).mono ?_); (case side1 => repeat (first | exact (Kd.R_reads' HO_653001.out).2.2 | (with_reducible refine Kd.C_alloc ?_ _) | (with_reducible refine Kd.C_drewN ?_ _) | (with_reducible refine Kd.C_drew ?_))); (case side2 => exact (Kd.R_reads' HO_653001.out).2.1); rintro e w40 ⟨rfl, hb⟩; have n0_ := Aside0.mk (Kd.R_below (by (with_reducible repeat (first | apply Kd.R_alloc | apply Kd.R_drewN | apply Kd.R_drew)); exact HO_653001.out) hb); have n1_ := Aside0.mk (blk_below (g := gb652) (o := .cells #[.int .i64 t647, .slice Ao10 t648.length co10] 25 (0, 0)) (by (with_reducible repeat (first | refine blk_drewN ?_ _ | refine blk_drew ?_ | refine blk_alloc ?_ _)); exact BK652.out) hb); have n2_ := Aside0.mk (below_step (by repeat (first | (with_reducible first | exact HB.out | apply below_alloc | apply pw_below_drewN | apply below_drew1 | refine below_set ?_ GE652.out) | exact HB.out)) hb); clear HO_653001; clear BK652; clear HB; have HO_653001 := n0_; have BK652 := n1_; have HB := n2_; clear n0_ n1_ n2_; (try clear hb); (try clear hb2); (try clear hk); (try clear hi)))
                    go_ret
                    exact ⟨by first | rfl | (simp [errW_none, errW_some] <;> rfl) | (simp [*, errW_none, errW_some] <;> rfl), by repeat (first | (with_reducible first | exact HB.out | apply below_alloc | apply pw_below_drewN | apply below_drew1 | refine below_set ?_ GE652.out) | exact HB.out)⟩
                  · replace c35 := Bool.eq_false_iff.mpr c35
                    subst c35
                    have H1 : (some false) = some r := by rw [if_neg (show ¬ (false = true) by decide)] at H; exact H
                    clear H
                    have H := H1
                    clear H1
                    obtain rfl := Option.some.inj H
                    have hcz41_0 : wr.cell? ⟨gb652, 0, none⟩ = some (.int .i64 t647) := (blk_cell BK652.out 0).trans rfl
                    have hcz41_1 : wr.cell? ⟨gb652, 1, none⟩ = some (.slice Ao10 t648.length co10) := (blk_cell BK652.out 1).trans rfl
                    have hfz41_0 := blk_frozen BK652.out 0
                    have hfz41_1 := blk_frozen BK652.out 1
                    go_wp2_with (first | (go_at_call 28; (with_reducible refine (impl_StrongIn.calls k2 t647 _ _ t648 t655 false _ ?side1 ?side2 A34.out).mono ?_); (case side1 => repeat (first | exact (Kd.R_reads' HO_653001.out).2.2 | (with_reducible refine Kd.C_alloc ?_ _) | (with_reducible refine Kd.C_drewN ?_ _) | (with_reducible refine Kd.C_drew ?_))); (case side2 => exact (Kd.R_reads' HO_653001.out).2.1); rintro e w42 ⟨rfl, hb⟩; have n0_ := Aside0.mk (Kd.R_below (by (with_reducible repeat (first | apply Kd.R_alloc | apply Kd.R_drewN | apply Kd.R_drew)); exact HO_653001.out) hb); have n1_ := Aside0.mk (blk_below (g := gb652) (o := .cells #[.int .i64 t647, .slice Ao10 t648.length co10] 25 (0, 0)) (by (with_reducible repeat (first | refine blk_drewN ?_ _ | refine blk_drew ?_ | refine blk_alloc ?_ _)); exact BK652.out) hb); have n2_ := Aside0.mk (below_step (by repeat (first | (with_reducible first | exact HB.out | apply below_alloc | apply pw_below_drewN | apply below_drew1 | refine below_set ?_ GE652.out) | exact HB.out)) hb); clear HO_653001; clear BK652; clear HB; have HO_653001 := n0_; have BK652 := n1_; have HB := n2_; clear n0_ n1_ n2_; (try clear hb); (try clear hb2); (try clear hk); (try clear hi)))
                    go_ret
                    exact ⟨by first | rfl | (simp [errW_none, errW_some] <;> rfl) | (simp [*, errW_none, errW_some] <;> rfl), by repeat (first | (with_reducible first | exact HB.out | apply below_alloc | apply pw_below_drewN | apply below_drew1 | refine below_set ?_ GE652.out) | exact HB.out)⟩
                · replace c33 := Bool.eq_false_iff.mpr c33
                  subst c33
                  have H1 : (some false) = some r := by rw [if_neg (show ¬ (false = true) by decide)] at H; exact H
                  clear H
                  have H := H1
                  clear H1
                  obtain rfl := Option.some.inj H
                  have hcz43_0 : wr.cell? ⟨gb652, 0, none⟩ = some (.int .i64 t647) := (blk_cell BK652.out 0).trans rfl
                  have hcz43_1 : wr.cell? ⟨gb652, 1, none⟩ = some (.slice Ao10 t648.length co10) := (blk_cell BK652.out 1).trans rfl
                  have hfz43_0 := blk_frozen BK652.out 0
                  have hfz43_1 := blk_frozen BK652.out 1
                  go_wp2
                  go_ret
                  exact ⟨by first | rfl | (simp [errW_none, errW_some] <;> rfl) | (simp [*, errW_none, errW_some] <;> rfl), by repeat (first | (with_reducible first | exact HB.out | apply below_alloc | apply pw_below_drewN | apply below_drew1 | refine below_set ?_ GE652.out) | exact HB.out)⟩

/-- THE ONE PURE STATEMENT of laws_FnStrong: yours. -/
def laws_FnStrong.Pure : Prop := ∀ (l0 : List Int), l0.length ≤ maxLen → l0.length * 1 ≤ 140737488351232 → (∀ x ∈ l0, (Lit.int .u8 x).wf = true) → ∃ k, laws_FnStrong.f k l0 = some true
theorem laws_FnStrong.walk (P : laws_FnStrong.Pure) (a0 : Option Addr) (len0 cap0 : Nat) (z0 : List Int) (w : World) (w0 : (a0 = none ∧ len0 = 0 ∧ cap0 = 0 ∧ z0 = []) ∨ ∃ x, a0 = some x ∧ len0 ≤ cap0 ∧ cap0 ≤ maxLen ∧ z0.length = cap0 ∧ (∀ i, i < z0.length → w.cell? (x.add i) = some (.int .u8 (z0.getD i 0))) ∧ ∀ n ∈ z0, (Lit.int .u8 n).wf = true) (y0 : len0 * 1 ≤ 140737488351232) :
    Calls Try.prog 13 #[.slice a0 len0 cap0] w fun e w' => e = .returned (.bool true) ∧ Below w.heap.size w w' := by
  obtain ⟨l0, rfl, hr0, hm0, hw0, hc0⟩ := ReadsInt.ofRowC w0
  obtain ⟨k, h⟩ := P l0 hm0 y0 hw0
  refine (laws_FnStrong.calls k _ _ l0 true w (Kd.C_of_reads (d := (0 : Int)) (h1 := fun _ => rfl) hr0) hc0 h).mono ?_
  rintro e w' ⟨rfl, hd⟩
  exact ⟨rfl, hd⟩

end Go.Proofs.Ytomaibajmlfhhaa.P
