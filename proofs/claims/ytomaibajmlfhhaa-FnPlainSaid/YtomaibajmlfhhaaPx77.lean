-- PRINTED by print.py (a twelfth state) out of the translation. Not trusted: Lean checks it.
import Derived.Test.YtomaibajmlfhhaaPx0
import Derived.Test.YtomaibajmlfhhaaPx42
import Derived.Test.YtomaibajmlfhhaaPx54
import Derived.Test.YtomaibajmlfhhaaPx58
import Derived.Test.YtomaibajmlfhhaaPx71
import Derived.Test.YtomaibajmlfhhaaPx74
import Derived.Test.YtomaibajmlfhhaaPx76
namespace Go.Proofs.Ytomaibajmlfhhaa.P
open Go.RowKit Go.Proofs.YtomaibajmlfhhaaW.PrintWords Go.Proofs.YtomaibajmlfhhaaW.PrintLast Go.Proofs.YtomaibajmlfhhaaW.PrintMore
attribute [local go_sem] max2_int min2_int max_two min_two max_three min_three max_four min_four   -- for this text's walks alone
set_option linter.unusedVariables false
set_option linter.unusedSimpArgs false

/-! ### laws_FnPlain: function 12 -/
def laws_FnPlain.j0 : Nat → Int → Bool → Bool → Bool → Int → List (S34) → Option (Bool)
  | 0, _, _, _, _, _, _ => none
  | k + 1, x4, x5, x6, x33, x607000, x607001 => if x33 = true then (some (x5 == x6)) else ((impl_WayTurned.f k x607000 x607001 x4).bind fun bt609 => ((impl_WaySources.f k x607000 x607001 x4).bind fun bt611 => ((impl_WaySinks.f k x607000 x607001 x4).bind fun bt613 => (if bt609.2 = true then (if bt611.2 = true then (if bt613.2 = true then (if bt611.1 > 0 then (if bt613.1 > 0 then ((impl_PlainIn.f k x607000 x607001 bt609.1).bind fun t615 => (some t615)) else (some false)) else (some false)) else (some false)) else (some false)) else (some false)))))
def laws_FnPlain.f (k : Nat) (l0 : List Int) : Option (Bool) := if (l0.length : Int) > 1048576 then (some true) else ((spec_DrawPlainIn.f k l0).bind fun bt601 => ((impl_PlainIn.f k bt601.1 bt601.2.1 bt601.2.2).bind fun t607 => ((spec_PlainIn.f k bt601.1 bt601.2.1 bt601.2.2).bind fun t608 => (if (t607 != t608) = true then (laws_FnPlain.j0 k bt601.2.2 t607 t608 true bt601.1 bt601.2.1) else (laws_FnPlain.j0 k bt601.2.2 t607 t608 (!t607) bt601.1 bt601.2.1)))))
theorem laws_FnPlain.mono_l : ∀ k, (∀ y0 y1 y2 y3 y4 y5, LeO (laws_FnPlain.j0 k y0 y1 y2 y3 y4 y5) (laws_FnPlain.j0 (k + 1) y0 y1 y2 y3 y4 y5))
  | 0 => fun _ _ _ _ _ _ r h => by simp [laws_FnPlain.j0] at h
  | k + 1 => by
    have ih0 := laws_FnPlain.mono_l k
    · intro y0 y1 y2 y3 y4 y5
      unfold laws_FnPlain.j0
      repeat' first
      | (with_reducible exact ih0 _ _ _ _ _ _)
      | (with_reducible exact impl_PlainIn.mono _ _ _ _)
      | (with_reducible exact impl_WaySinks.mono _ _ _ _)
      | (with_reducible exact impl_WaySources.mono _ _ _ _)
      | (with_reducible exact impl_WayTurned.mono _ _ _ _)
      | (with_reducible exact spec_DrawPlainIn.mono _ _)
      | (with_reducible exact spec_PlainIn.mono _ _ _ _)
      | (with_reducible exact LeO.refl _)
      | (with_reducible exact LeO.none _)
      | (with_reducible refine LeO.ite ?_ ?_)
      | (with_reducible refine LeO.bind ?_ (fun _ => ?_))
      | exact ih0 _ _ _ _ _ _
      | exact impl_PlainIn.mono _ _ _ _
      | exact impl_WaySinks.mono _ _ _ _
      | exact impl_WaySources.mono _ _ _ _
      | exact impl_WayTurned.mono _ _ _ _
      | exact spec_DrawPlainIn.mono _ _
      | exact spec_PlainIn.mono _ _ _ _
      | exact LeO.none _
      | refine LeO.ite ?_ ?_
      | refine LeO.bind ?_ (fun _ => ?_)
theorem laws_FnPlain.mono : ∀ a0 k, LeO (laws_FnPlain.f k a0) (laws_FnPlain.f (k + 1) a0) := by
  intro a0 k
  have ih0 := laws_FnPlain.mono_l k
  unfold laws_FnPlain.f
  repeat' first
      | (with_reducible exact ih0 _ _ _ _ _ _)
      | (with_reducible exact impl_PlainIn.mono _ _ _ _)
      | (with_reducible exact impl_WaySinks.mono _ _ _ _)
      | (with_reducible exact impl_WaySources.mono _ _ _ _)
      | (with_reducible exact impl_WayTurned.mono _ _ _ _)
      | (with_reducible exact spec_DrawPlainIn.mono _ _)
      | (with_reducible exact spec_PlainIn.mono _ _ _ _)
      | (with_reducible exact LeO.refl _)
      | (with_reducible exact LeO.none _)
      | (with_reducible refine LeO.ite ?_ ?_)
      | (with_reducible refine LeO.bind ?_ (fun _ => ?_))
      | exact ih0 _ _ _ _ _ _
      | exact impl_PlainIn.mono _ _ _ _
      | exact impl_WaySinks.mono _ _ _ _
      | exact impl_WaySources.mono _ _ _ _
      | exact impl_WayTurned.mono _ _ _ _
      | exact spec_DrawPlainIn.mono _ _
      | exact spec_PlainIn.mono _ _ _ _
      | exact LeO.none _
      | refine LeO.ite ?_ ?_
      | refine LeO.bind ?_ (fun _ => ?_)
set_option maxHeartbeats 8000000 in
set_option maxRecDepth 100000 in
theorem laws_FnPlain.calls (k : Nat) (A0 : Option Addr) (c0 : Nat) (l0 : List Int) (r : Bool) (w : World) (hr0 : Kd.C (Kd.int .u8) w A0 l0.length l0) (hc0 : l0.length ≤ c0) (h : laws_FnPlain.f k l0 = some r) :
    Calls Try.prog 12 #[.slice A0 l0.length c0] w fun e w' => e = .returned (.bool r) ∧ Below w.heap.size w w' := by
  have hu25 := Try.underlying25
  have HR0 := Aside0.mk hr0
  have HC0 := Aside0.mk hc0
  clear hr0 hc0
  have HB := Aside0.mk (Below.refl w.heap.size w)
  have H : (if (l0.length : Int) > 1048576 then (some true) else ((spec_DrawPlainIn.f k l0).bind fun bt601 => ((impl_PlainIn.f k bt601.1 bt601.2.1 bt601.2.2).bind fun t607 => ((spec_PlainIn.f k bt601.1 bt601.2.1 bt601.2.2).bind fun t608 => (if (t607 != t608) = true then (laws_FnPlain.j0 k bt601.2.2 t607 t608 true bt601.1 bt601.2.1) else (laws_FnPlain.j0 k bt601.2.2 t607 t608 (!t607) bt601.1 bt601.2.1)))))) = some r := h
  clear h
  by_cases c2 : (l0.length : Int) > 1048576
  · rw [if_pos c2] at H
    have c2b0 : decide (1048576 < (l0.length : Int)) = true := decide_eq_true c2
    have c2b1 : decide (1048576 < l0.length) = true := decide_eq_true (by omega)
    clear c2
    obtain rfl := Option.some.inj H
    go_enter Try.func12, Try.ntmps12
    go_wp2
    go_ret
    exact ⟨by first | rfl | (simp [errW_none, errW_some] <;> rfl) | (simp [*, errW_none, errW_some] <;> rfl), by repeat (first | (with_reducible first | exact HB.out | apply below_alloc | apply pw_below_drewN | apply below_drew1) | exact HB.out)⟩
  · rw [if_neg c2] at H
    have c2b0 : decide (1048576 < (l0.length : Int)) = false := decide_eq_false c2
    have c2b1 : decide (1048576 < l0.length) = false := decide_eq_false (by omega)
    clear c2
    replace H := Option.bind_eq_some_iff.mp H
    obtain ⟨⟨t601, t602, t605⟩, A30, H⟩ := H
    replace H : ((impl_PlainIn.f k t601 t602 t605).bind fun t607 => ((spec_PlainIn.f k t601 t602 t605).bind fun t608 => (if (t607 != t608) = true then (laws_FnPlain.j0 k t605 t607 t608 true t601 t602) else (laws_FnPlain.j0 k t605 t607 t608 (!t607) t601 t602)))) = some r := H
    have A3 := Aside0.mk A30
    clear A30
    replace H := Option.bind_eq_some_iff.mp H
    obtain ⟨t607, A40, H⟩ := H
    replace H : ((spec_PlainIn.f k t601 t602 t605).bind fun t608 => (if (t607 != t608) = true then (laws_FnPlain.j0 k t605 t607 t608 true t601 t602) else (laws_FnPlain.j0 k t605 t607 t608 (!t607) t601 t602))) = some r := H
    have A4 := Aside0.mk A40
    clear A40
    replace H := Option.bind_eq_some_iff.mp H
    obtain ⟨t608, A50, H⟩ := H
    replace H : (if (t607 != t608) = true then (laws_FnPlain.j0 k t605 t607 t608 true t601 t602) else (laws_FnPlain.j0 k t605 t607 t608 (!t607) t601 t602)) = some r := H
    have A5 := Aside0.mk A50
    clear A50
    have HC6 := Aside0.mk H
    clear H
    go_enter Try.func12, Try.ntmps12
    go_upto_region 6 with (first | ((with_reducible refine gate_callee (f := 48) rfl ?_); refine goesL_ (some 18) rfl rfl Try.func48 (by kernel_rfl) rfl #[.slice A0 l0.length c0] rfl (by (try simp only [List.map_toArray, List.map_cons, List.map_nil]); first | done | rfl | (simp only [List.length_drop, List.length_take]; rfl)) ?_; (with_reducible refine (spec_DrawPlainIn.calls k _ _ l0 t601 t602 t605 _ ?side1 ?side2 A3.out).mono ?_); (case side1 => repeat (first | exact HR0.out | (with_reducible refine Kd.C_alloc ?_ _) | (with_reducible refine Kd.C_drewN ?_ _) | (with_reducible refine Kd.C_drew ?_))); (case side2 => exact HC0.out); rintro e w7 ⟨v603, rfl, ho0, hb⟩; refine ⟨_, rfl, ?_⟩; have n0_ := Aside0.mk (Kd.R_lower ho0 (below_size (by repeat (first | (with_reducible first | exact HB.out | apply below_alloc | apply pw_below_drewN | apply below_drew1) | exact HB.out)))); have n1_ := Aside0.mk (below_step (by repeat (first | (with_reducible first | exact HB.out | apply below_alloc | apply pw_below_drewN | apply below_drew1) | exact HB.out)) hb); clear HB; have HO604 := n0_; have HB := n1_; clear n0_ n1_; (try clear hb); (try clear hb2); (try clear hk); (try clear hi); (try clear ho0)) | ((with_reducible refine gate_dst (N := 3) rfl ?_); refine box_event ?hg (N := 3) ?hd (cs := #[.int .i64 0, .slice none 0 0]) (t := 25) ?hr ?_; (case hd => rfl); (case hg => rfl); (case hr => first | (go_simp; done) | (go_simp; rfl)); intro gb606 hg w8 hbox hb; have n0_ := Aside0.mk (Kd.R_below (by (with_reducible repeat (first | apply Kd.R_alloc | apply Kd.R_drewN | apply Kd.R_drew)); exact HO604.out) hb); have n1_ := Aside0.mk (below_step (by repeat (first | (with_reducible first | exact HB.out | apply below_alloc | apply pw_below_drewN | apply below_drew1) | exact HB.out)) hb); have n2_ := Aside0.mk (hbox); have n3_ := Aside0.mk ((by rw [hg]; exact (below_size (by repeat (first | (with_reducible first | exact HB.out | apply below_alloc | apply pw_below_drewN | apply below_drew1) | exact HB.out))) : w.heap.size ≤ gb606)); have n4_ := Aside0.mk ((by rw [hg]; exact (below_size (by repeat (first | (with_reducible first | exact HB.out | apply below_alloc | apply pw_below_drewN | apply below_drew1) | exact HB.out))) : w.heap.size ≤ gb606)); clear HO604; clear HB; have HO604 := n0_; have HB := n1_; have BK606 := n2_; have GW606 := n3_; have GE606 := n4_; clear n0_ n1_ n2_ n3_ n4_; clear hb hbox hg; have hcz9_0 : w8.cell? ⟨gb606, 0, none⟩ = some (.int .i64 0) := (blk_cell BK606.out 0).trans rfl; have hcz9_1 : w8.cell? ⟨gb606, 1, none⟩ = some (.slice none 0 0) := (blk_cell BK606.out 1).trans rfl; have hfz9_0 := blk_frozen BK606.out 0; have hfz9_1 := blk_frozen BK606.out 1; obtain ⟨Ao10, co10, eo10⟩ := Kd.R_slice HO604.out; subst eo10) | ((with_reducible refine gate_callee (f := 49) rfl ?_); refine goesL_ (some 23) rfl rfl Try.func49 (by kernel_rfl) rfl #[.agg #[.int .i64 t601, .slice Ao10 t602.length co10], .int .i64 t605] rfl (by (try simp only [List.map_toArray, List.map_cons, List.map_nil]); first | done | rfl | (simp only [List.length_drop, List.length_take]; rfl)) ?_; (with_reducible refine (impl_PlainIn.calls k t601 _ _ t602 t605 t607 _ ?side1 ?side2 A4.out).mono ?_); (case side1 => refine (Kd.R_reads' (e := 34) (base := w.heap.size) (ok := fun k_ => True) (n := t602.length) (c := co10) ?_).2.2; exact (by (with_reducible repeat (first | apply Kd.R_alloc | apply Kd.R_drewN | apply Kd.R_drew)); exact (Kd.R_mono (Kd.R_far (p := ⟨gb606, 1, none⟩) (Kd.R_far (p := ⟨gb606, 0, none⟩) (Kd.R_types HO604.out BK606.out (by decide)) (fun _ hk => hk.2) (.int .i64 t601)) (fun _ hk => hk.2) (.slice Ao10 t602.length co10)) (fun _ h_ => h_.1)))); (case side2 => exact (Kd.R_reads' HO604.out).2.1); rintro e w11 ⟨rfl, hb⟩; refine ⟨_, rfl, ?_⟩; have n0_ := Aside0.mk (Kd.R_below (by (with_reducible repeat (first | apply Kd.R_alloc | apply Kd.R_drewN | apply Kd.R_drew)); exact (Kd.R_mono (Kd.R_far (p := ⟨gb606, 1, none⟩) (Kd.R_far (p := ⟨gb606, 0, none⟩) (Kd.R_types HO604.out BK606.out (by decide)) (fun _ hk => hk.2) (.int .i64 t601)) (fun _ hk => hk.2) (.slice Ao10 t602.length co10)) (fun _ h_ => h_.1))) hb); have n1_ := Aside0.mk (blk_below (g := gb606) (o := .cells #[.int .i64 t601, .slice Ao10 t602.length co10] 25 (0, 0)) (by (with_reducible repeat (first | refine blk_drewN ?_ _ | refine blk_drew ?_ | refine blk_alloc ?_ _)); refine blk_put (cs := #[.int .i64 t601, .slice none 0 0]) ?_ 1 _ rfl; (with_reducible repeat (first | refine blk_drewN ?_ _ | refine blk_drew ?_ | refine blk_alloc ?_ _)); refine blk_put (cs := #[.int .i64 0, .slice none 0 0]) ?_ 0 _ rfl; (with_reducible repeat (first | refine blk_drewN ?_ _ | refine blk_drew ?_ | refine blk_alloc ?_ _)); exact BK606.out) hb); have n2_ := Aside0.mk (below_step (by repeat (first | (with_reducible first | exact HB.out | apply below_alloc | apply pw_below_drewN | apply below_drew1 | refine below_set ?_ GE606.out) | exact HB.out)) hb); clear HO604; clear BK606; clear HB; have HO604 := n0_; have BK606 := n1_; have HB := n2_; clear n0_ n1_ n2_; (try clear hb); (try clear hb2); (try clear hk); (try clear hi); have hcz12_0 : w11.cell? ⟨gb606, 0, none⟩ = some (.int .i64 t601) := (blk_cell BK606.out 0).trans rfl; have hcz12_1 : w11.cell? ⟨gb606, 1, none⟩ = some (.slice Ao10 t602.length co10) := (blk_cell BK606.out 1).trans rfl; have hfz12_0 := blk_frozen BK606.out 0; have hfz12_1 := blk_frozen BK606.out 1) | ((with_reducible refine gate_callee (f := 50) rfl ?_); refine goesL_ (some 26) rfl rfl Try.func50 (by kernel_rfl) rfl #[.agg #[.int .i64 t601, .slice Ao10 t602.length co10], .int .i64 t605] rfl (by (try simp only [List.map_toArray, List.map_cons, List.map_nil]); first | done | rfl | (simp only [List.length_drop, List.length_take]; rfl)) ?_; (with_reducible refine (spec_PlainIn.calls k t601 _ _ t602 t605 t608 _ ?side1 ?side2 A5.out).mono ?_); (case side1 => repeat (first | exact (Kd.R_reads' HO604.out).2.2 | (with_reducible refine Kd.C_alloc ?_ _) | (with_reducible refine Kd.C_drewN ?_ _) | (with_reducible refine Kd.C_drew ?_))); (case side2 => exact (Kd.R_reads' HO604.out).2.1); rintro e w13 ⟨rfl, hb⟩; refine ⟨_, rfl, ?_⟩; have n0_ := Aside0.mk (Kd.R_below (by (with_reducible repeat (first | apply Kd.R_alloc | apply Kd.R_drewN | apply Kd.R_drew)); exact HO604.out) hb); have n1_ := Aside0.mk (blk_below (g := gb606) (o := .cells #[.int .i64 t601, .slice Ao10 t602.length co10] 25 (0, 0)) (by (with_reducible repeat (first | refine blk_drewN ?_ _ | refine blk_drew ?_ | refine blk_alloc ?_ _)); exact BK606.out) hb); have n2_ := Aside0.mk (below_step (by repeat (first | (with_reducible first | exact HB.out | apply below_alloc | apply pw_below_drewN | apply below_drew1 | refine below_set ?_ GE606.out) | exact HB.out)) hb); clear HO604; clear BK606; clear HB; have HO604 := n0_; have BK606 := n1_; have HB := n2_; clear n0_ n1_ n2_; (try clear hb); (try clear hb2); (try clear hk); (try clear hi)))
    (try simp only [Act.put, List.setIfInBounds_toArray, List.set_cons_zero, List.set_cons_succ])
    go_cut [33] (fun v33 wc => ∃ (kq : Nat) (x33_5 : Bool), v33 = .bool x33_5 ∧ Aside0 (laws_FnPlain.j0 kq t605 t607 t608 x33_5 t601 t602 = some r) ∧ Aside0 (kq ≤ k) ∧ Aside0 (Kd.R k34 34 wc w.heap.size (fun _ => True) (.slice Ao10 t602.length co10) t602) ∧ Aside0 (wc.heap[gb606]? = some (.cells #[.int .i64 t601, (.slice Ao10 t602.length co10)] 25 (0, 0))) ∧ Aside0 (Below w.heap.size w wc))
    case first =>
      have H := HC6.out
      clear HC6
      by_cases c14 : (t607 != t608) = true
      · rw [if_pos c14] at H
        have c14b0 : (t607 != t608) = true := c14
        (try (have c14b1 : decide (t607 = t608) = false := by simpa using c14))
        (try (have c14b2 : (t607 == t608) = false := by simpa using c14))
        (try (have c14b3 : ¬ (t607 = t608) := by simpa using c14))
        clear c14
        (first | rw [c14b0] | (simp only [i64_w, i32_w]; rw [c14b0]) | skip)
        have H' := Aside0.mk H
        clear H
        go_wp2
        go_meet
        case rel => exact ⟨_, (true), (by first | rfl | (simp; done) | (simp [*]; done)), H', ⟨by first | omega | exact Nat.le_refl _⟩, ⟨by (with_reducible repeat (first | apply Kd.R_alloc | apply Kd.R_drewN | apply Kd.R_drew)); exact HO604.out⟩, ⟨by (with_reducible repeat (first | refine blk_drewN ?_ _ | refine blk_drew ?_ | refine blk_alloc ?_ _)); exact BK606.out⟩, ⟨by repeat (first | (with_reducible first | exact HB.out | apply below_alloc | apply pw_below_drewN | apply below_drew1 | refine below_set ?_ GE606.out) | exact HB.out)⟩⟩
      · rw [if_neg c14] at H
        have c14b0 : (t607 != t608) = false := by simpa using c14
        (try (have c14b1 : decide (t607 = t608) = true := by simpa using c14))
        (try (have c14b2 : (t607 == t608) = true := by simpa using c14))
        clear c14
        (first | rw [c14b0] | (simp only [i64_w, i32_w]; rw [c14b0]) | skip)
        have H' := Aside0.mk H
        clear H
        go_wp2
        go_meet
        case rel => exact ⟨_, (!t607), (by first | rfl | (simp; done) | (simp [*]; done)), H', ⟨by first | omega | exact Nat.le_refl _⟩, ⟨by (with_reducible repeat (first | apply Kd.R_alloc | apply Kd.R_drewN | apply Kd.R_drew)); exact HO604.out⟩, ⟨by (with_reducible repeat (first | refine blk_drewN ?_ _ | refine blk_drew ?_ | refine blk_alloc ?_ _)); exact BK606.out⟩, ⟨by repeat (first | (with_reducible first | exact HB.out | apply below_alloc | apply pw_below_drewN | apply below_drew1 | refine below_set ?_ GE606.out) | exact HB.out)⟩⟩
    case rest =>
      clear HC6
      try clear c1
      try clear c2
      try clear c2b0
      try clear c2b1
      try clear p2
      try clear c4
      try clear c5
      try clear c12
      try clear c14
      try clear c14b0
      try clear c14b1
      try clear c14b2
      try clear hcz12_0
      try clear hcz12_1
      try clear hcz9_0
      try clear hcz9_1
      try clear hfz12_0
      try clear hfz12_1
      try clear hfz9_0
      try clear hfz9_1
      obtain ⟨kq, x33_5, rfl, HA, HJ5, HO_607001, BK606, HB⟩ := hcut
      cases kq with
      | zero => exact absurd HA.out (by simp [laws_FnPlain.j0])
      | succ kj5 =>
        have H := HA.out
        clear HA
        simp only [laws_FnPlain.j0] at H
        by_cases c15 : x33_5 = true
        · subst c15
          have H1 : (some (t607 == t608)) = some r := by rw [if_pos rfl] at H; exact H
          clear H
          have H := H1
          clear H1
          obtain rfl := Option.some.inj H
          go_wp2
          go_ret
          exact ⟨by first | rfl | (simp [errW_none, errW_some] <;> rfl) | (simp [*, errW_none, errW_some] <;> rfl), by repeat (first | (with_reducible first | exact HB.out | apply below_alloc | apply pw_below_drewN | apply below_drew1 | refine below_set ?_ GE606.out) | exact HB.out)⟩
        · replace c15 := Bool.eq_false_iff.mpr c15
          subst c15
          have H1 : ((impl_WayTurned.f kj5 t601 t602 t605).bind fun bt609 => ((impl_WaySources.f kj5 t601 t602 t605).bind fun bt611 => ((impl_WaySinks.f kj5 t601 t602 t605).bind fun bt613 => (if bt609.2 = true then (if bt611.2 = true then (if bt613.2 = true then (if bt611.1 > 0 then (if bt613.1 > 0 then ((impl_PlainIn.f kj5 t601 t602 bt609.1).bind fun t615 => (some t615)) else (some false)) else (some false)) else (some false)) else (some false)) else (some false))))) = some r := by rw [if_neg (show ¬ (false = true) by decide)] at H; exact H
          clear H
          have H := H1
          clear H1
          replace H := Option.bind_eq_some_iff.mp H
          obtain ⟨⟨t609, t610⟩, A160, H⟩ := H
          replace H : ((impl_WaySources.f kj5 t601 t602 t605).bind fun bt611 => ((impl_WaySinks.f kj5 t601 t602 t605).bind fun bt613 => (if t610 = true then (if bt611.2 = true then (if bt613.2 = true then (if bt611.1 > 0 then (if bt613.1 > 0 then ((impl_PlainIn.f kj5 t601 t602 t609).bind fun t615 => (some t615)) else (some false)) else (some false)) else (some false)) else (some false)) else (some false)))) = some r := H
          have A16 := Aside0.mk A160
          clear A160
          replace H := Option.bind_eq_some_iff.mp H
          obtain ⟨⟨t611, t612⟩, A170, H⟩ := H
          replace H : ((impl_WaySinks.f kj5 t601 t602 t605).bind fun bt613 => (if t610 = true then (if t612 = true then (if bt613.2 = true then (if t611 > 0 then (if bt613.1 > 0 then ((impl_PlainIn.f kj5 t601 t602 t609).bind fun t615 => (some t615)) else (some false)) else (some false)) else (some false)) else (some false)) else (some false))) = some r := H
          have A17 := Aside0.mk A170
          clear A170
          replace H := Option.bind_eq_some_iff.mp H
          obtain ⟨⟨t613, t614⟩, A180, H⟩ := H
          replace H : (if t610 = true then (if t612 = true then (if t614 = true then (if t611 > 0 then (if t613 > 0 then ((impl_PlainIn.f kj5 t601 t602 t609).bind fun t615 => (some t615)) else (some false)) else (some false)) else (some false)) else (some false)) else (some false)) = some r := H
          have A18 := Aside0.mk A180
          clear A180
          by_cases c19 : t610 = true
          · subst c19
            have H1 : (if t612 = true then (if t614 = true then (if t611 > 0 then (if t613 > 0 then ((impl_PlainIn.f kj5 t601 t602 t609).bind fun t615 => (some t615)) else (some false)) else (some false)) else (some false)) else (some false)) = some r := by rw [if_pos rfl] at H; exact H
            clear H
            have H := H1
            clear H1
            by_cases c20 : t612 = true
            · subst c20
              have H1 : (if t614 = true then (if t611 > 0 then (if t613 > 0 then ((impl_PlainIn.f kj5 t601 t602 t609).bind fun t615 => (some t615)) else (some false)) else (some false)) else (some false)) = some r := by rw [if_pos rfl] at H; exact H
              clear H
              have H := H1
              clear H1
              by_cases c21 : t614 = true
              · subst c21
                have H1 : (if t611 > 0 then (if t613 > 0 then ((impl_PlainIn.f kj5 t601 t602 t609).bind fun t615 => (some t615)) else (some false)) else (some false)) = some r := by rw [if_pos rfl] at H; exact H
                clear H
                have H := H1
                clear H1
                by_cases c22 : t611 > 0
                · rw [if_pos c22] at H
                  have c22b0 : decide (0 < t611) = true := decide_eq_true c22
                  clear c22
                  by_cases c23 : t613 > 0
                  · rw [if_pos c23] at H
                    have c23b0 : decide (0 < t613) = true := decide_eq_true c23
                    clear c23
                    replace H := Option.bind_eq_some_iff.mp H
                    obtain ⟨t615, A240, H⟩ := H
                    replace H : (some t615) = some r := H
                    have A24 := Aside0.mk A240
                    clear A240
                    obtain rfl := Option.some.inj H
                    have hcz25_0 : wc.cell? ⟨gb606, 0, none⟩ = some (.int .i64 t601) := (blk_cell BK606.out 0).trans rfl
                    have hcz25_1 : wc.cell? ⟨gb606, 1, none⟩ = some (.slice Ao10 t602.length co10) := (blk_cell BK606.out 1).trans rfl
                    have hfz25_0 := blk_frozen BK606.out 0
                    have hfz25_1 := blk_frozen BK606.out 1
                    go_wp2_with (first | ((with_reducible refine gate_callee (f := 32) rfl ?_); refine goesL_ (some 40) rfl rfl Try.func32 (by kernel_rfl) rfl #[.agg #[.int .i64 t601, .slice Ao10 t602.length co10], .int .i64 t605] rfl (by (try simp only [List.map_toArray, List.map_cons, List.map_nil]); first | done | rfl | (simp only [List.length_drop, List.length_take]; rfl)) ?_; (with_reducible refine (impl_WayTurned.calls kj5 t601 _ _ t602 t605 t609 true _ ?side1 ?side2 A16.out).mono ?_); (case side1 => repeat (first | exact (Kd.R_reads' HO_607001.out).2.2 | (with_reducible refine Kd.C_alloc ?_ _) | (with_reducible refine Kd.C_drewN ?_ _) | (with_reducible refine Kd.C_drew ?_))); (case side2 => exact (Kd.R_reads' HO_607001.out).2.1); rintro e w26 ⟨rfl, hb⟩; refine ⟨_, rfl, ?_⟩; have n0_ := Aside0.mk (Kd.R_below (by (with_reducible repeat (first | apply Kd.R_alloc | apply Kd.R_drewN | apply Kd.R_drew)); exact HO_607001.out) hb); have n1_ := Aside0.mk (blk_below (g := gb606) (o := .cells #[.int .i64 t601, .slice Ao10 t602.length co10] 25 (0, 0)) (by (with_reducible repeat (first | refine blk_drewN ?_ _ | refine blk_drew ?_ | refine blk_alloc ?_ _)); exact BK606.out) hb); have n2_ := Aside0.mk (below_step (by repeat (first | (with_reducible first | exact HB.out | apply below_alloc | apply pw_below_drewN | apply below_drew1 | refine below_set ?_ GE606.out) | exact HB.out)) hb); clear HO_607001; clear BK606; clear HB; have HO_607001 := n0_; have BK606 := n1_; have HB := n2_; clear n0_ n1_ n2_; (try clear hb); (try clear hb2); (try clear hk); (try clear hi); have hcz27_0 : w26.cell? ⟨gb606, 0, none⟩ = some (.int .i64 t601) := (blk_cell BK606.out 0).trans rfl; have hcz27_1 : w26.cell? ⟨gb606, 1, none⟩ = some (.slice Ao10 t602.length co10) := (blk_cell BK606.out 1).trans rfl; have hfz27_0 := blk_frozen BK606.out 0; have hfz27_1 := blk_frozen BK606.out 1) | ((with_reducible refine gate_callee (f := 37) rfl ?_); refine goesL_ (some 46) rfl rfl Try.func37 (by kernel_rfl) rfl #[.agg #[.int .i64 t601, .slice Ao10 t602.length co10], .int .i64 t605] rfl (by (try simp only [List.map_toArray, List.map_cons, List.map_nil]); first | done | rfl | (simp only [List.length_drop, List.length_take]; rfl)) ?_; (with_reducible refine (impl_WaySources.calls kj5 t601 _ _ t602 t605 t611 true _ ?side1 ?side2 A17.out).mono ?_); (case side1 => repeat (first | exact (Kd.R_reads' HO_607001.out).2.2 | (with_reducible refine Kd.C_alloc ?_ _) | (with_reducible refine Kd.C_drewN ?_ _) | (with_reducible refine Kd.C_drew ?_))); (case side2 => exact (Kd.R_reads' HO_607001.out).2.1); rintro e w28 ⟨rfl, hb⟩; refine ⟨_, rfl, ?_⟩; have n0_ := Aside0.mk (Kd.R_below (by (with_reducible repeat (first | apply Kd.R_alloc | apply Kd.R_drewN | apply Kd.R_drew)); exact HO_607001.out) hb); have n1_ := Aside0.mk (blk_below (g := gb606) (o := .cells #[.int .i64 t601, .slice Ao10 t602.length co10] 25 (0, 0)) (by (with_reducible repeat (first | refine blk_drewN ?_ _ | refine blk_drew ?_ | refine blk_alloc ?_ _)); exact BK606.out) hb); have n2_ := Aside0.mk (below_step (by repeat (first | (with_reducible first | exact HB.out | apply below_alloc | apply pw_below_drewN | apply below_drew1 | refine below_set ?_ GE606.out) | exact HB.out)) hb); clear HO_607001; clear BK606; clear HB; have HO_607001 := n0_; have BK606 := n1_; have HB := n2_; clear n0_ n1_ n2_; (try clear hb); (try clear hb2); (try clear hk); (try clear hi); have hcz29_0 : w28.cell? ⟨gb606, 0, none⟩ = some (.int .i64 t601) := (blk_cell BK606.out 0).trans rfl; have hcz29_1 : w28.cell? ⟨gb606, 1, none⟩ = some (.slice Ao10 t602.length co10) := (blk_cell BK606.out 1).trans rfl; have hfz29_0 := blk_frozen BK606.out 0; have hfz29_1 := blk_frozen BK606.out 1) | ((with_reducible refine gate_callee (f := 39) rfl ?_); refine goesL_ (some 52) rfl rfl Try.func39 (by kernel_rfl) rfl #[.agg #[.int .i64 t601, .slice Ao10 t602.length co10], .int .i64 t605] rfl (by (try simp only [List.map_toArray, List.map_cons, List.map_nil]); first | done | rfl | (simp only [List.length_drop, List.length_take]; rfl)) ?_; (with_reducible refine (impl_WaySinks.calls kj5 t601 _ _ t602 t605 t613 true _ ?side1 ?side2 A18.out).mono ?_); (case side1 => repeat (first | exact (Kd.R_reads' HO_607001.out).2.2 | (with_reducible refine Kd.C_alloc ?_ _) | (with_reducible refine Kd.C_drewN ?_ _) | (with_reducible refine Kd.C_drew ?_))); (case side2 => exact (Kd.R_reads' HO_607001.out).2.1); rintro e w30 ⟨rfl, hb⟩; refine ⟨_, rfl, ?_⟩; have n0_ := Aside0.mk (Kd.R_below (by (with_reducible repeat (first | apply Kd.R_alloc | apply Kd.R_drewN | apply Kd.R_drew)); exact HO_607001.out) hb); have n1_ := Aside0.mk (blk_below (g := gb606) (o := .cells #[.int .i64 t601, .slice Ao10 t602.length co10] 25 (0, 0)) (by (with_reducible repeat (first | refine blk_drewN ?_ _ | refine blk_drew ?_ | refine blk_alloc ?_ _)); exact BK606.out) hb); have n2_ := Aside0.mk (below_step (by repeat (first | (with_reducible first | exact HB.out | apply below_alloc | apply pw_below_drewN | apply below_drew1 | refine below_set ?_ GE606.out) | exact HB.out)) hb); clear HO_607001; clear BK606; clear HB; have HO_607001 := n0_; have BK606 := n1_; have HB := n2_; clear n0_ n1_ n2_; (try clear hb); (try clear hb2); (try clear hk); (try clear hi); have hcz31_0 : w30.cell? ⟨gb606, 0, none⟩ = some (.int .i64 t601) := (blk_cell BK606.out 0).trans rfl; have hcz31_1 : w30.cell? ⟨gb606, 1, none⟩ = some (.slice Ao10 t602.length co10) := (blk_cell BK606.out 1).trans rfl; have hfz31_0 := blk_frozen BK606.out 0; have hfz31_1 := blk_frozen BK606.out 1) | (go_at_call 49; (with_reducible refine (impl_PlainIn.calls kj5 t601 _ _ t602 t609 t615 _ ?side1 ?side2 A24.out).mono ?_); (case side1 => repeat (first | exact (Kd.R_reads' HO_607001.out).2.2 | (with_reducible refine Kd.C_alloc ?_ _) | (with_reducible refine Kd.C_drewN ?_ _) | (with_reducible refine Kd.C_drew ?_))); (case side2 => exact (Kd.R_reads' HO_607001.out).2.1); rintro e w32 ⟨rfl, hb⟩; have n0_ := Aside0.mk (Kd.R_below (by (with_reducible repeat (first | apply Kd.R_alloc | apply Kd.R_drewN | apply Kd.R_drew)); exact HO_607001.out) hb); have n1_ := Aside0.mk (blk_below (g := gb606) (o := .cells #[.int .i64 t601, .slice Ao10 t602.length co10] 25 (0, 0)) (by (with_reducible repeat (first | refine blk_drewN ?_ _ | refine blk_drew ?_ | refine blk_alloc ?_ _)); exact BK606.out) hb); have n2_ := Aside0.mk (below_step (by repeat (first | (with_reducible first | exact HB.out | apply below_alloc | apply pw_below_drewN | apply below_drew1 | refine below_set ?_ GE606.out) | exact HB.out)) hb); clear HO_607001; clear BK606; clear HB; have HO_607001 := n0_; have BK606 := n1_; have HB := n2_; clear n0_ n1_ n2_; (try clear hb); (try clear hb2); (try clear hk); (try clear hi)))
                    go_ret
                    exact ⟨by first | rfl | (simp [errW_none, errW_some] <;> rfl) | (simp [*, errW_none, errW_some] <;> rfl), by repeat (first | (with_reducible first | exact HB.out | apply below_alloc | apply pw_below_drewN | apply below_drew1 | refine below_set ?_ GE606.out) | exact HB.out)⟩
                  · rw [if_neg c23] at H
                    have c23b0 : decide (0 < t613) = false := decide_eq_false c23
                    clear c23
                    obtain rfl := Option.some.inj H
                    have hcz33_0 : wc.cell? ⟨gb606, 0, none⟩ = some (.int .i64 t601) := (blk_cell BK606.out 0).trans rfl
                    have hcz33_1 : wc.cell? ⟨gb606, 1, none⟩ = some (.slice Ao10 t602.length co10) := (blk_cell BK606.out 1).trans rfl
                    have hfz33_0 := blk_frozen BK606.out 0
                    have hfz33_1 := blk_frozen BK606.out 1
                    go_wp2_with (first | ((with_reducible refine gate_callee (f := 32) rfl ?_); refine goesL_ (some 40) rfl rfl Try.func32 (by kernel_rfl) rfl #[.agg #[.int .i64 t601, .slice Ao10 t602.length co10], .int .i64 t605] rfl (by (try simp only [List.map_toArray, List.map_cons, List.map_nil]); first | done | rfl | (simp only [List.length_drop, List.length_take]; rfl)) ?_; (with_reducible refine (impl_WayTurned.calls kj5 t601 _ _ t602 t605 t609 true _ ?side1 ?side2 A16.out).mono ?_); (case side1 => repeat (first | exact (Kd.R_reads' HO_607001.out).2.2 | (with_reducible refine Kd.C_alloc ?_ _) | (with_reducible refine Kd.C_drewN ?_ _) | (with_reducible refine Kd.C_drew ?_))); (case side2 => exact (Kd.R_reads' HO_607001.out).2.1); rintro e w34 ⟨rfl, hb⟩; refine ⟨_, rfl, ?_⟩; have n0_ := Aside0.mk (Kd.R_below (by (with_reducible repeat (first | apply Kd.R_alloc | apply Kd.R_drewN | apply Kd.R_drew)); exact HO_607001.out) hb); have n1_ := Aside0.mk (blk_below (g := gb606) (o := .cells #[.int .i64 t601, .slice Ao10 t602.length co10] 25 (0, 0)) (by (with_reducible repeat (first | refine blk_drewN ?_ _ | refine blk_drew ?_ | refine blk_alloc ?_ _)); exact BK606.out) hb); have n2_ := Aside0.mk (below_step (by repeat (first | (with_reducible first | exact HB.out | apply below_alloc | apply pw_below_drewN | apply below_drew1 | refine below_set ?_ GE606.out) | exact HB.out)) hb); clear HO_607001; clear BK606; clear HB; have HO_607001 := n0_; have BK606 := n1_; have HB := n2_; clear n0_ n1_ n2_; (try clear hb); (try clear hb2); (try clear hk); (try clear hi); have hcz35_0 : w34.cell? ⟨gb606, 0, none⟩ = some (.int .i64 t601) := (blk_cell BK606.out 0).trans rfl; have hcz35_1 : w34.cell? ⟨gb606, 1, none⟩ = some (.slice Ao10 t602.length co10) := (blk_cell BK606.out 1).trans rfl; have hfz35_0 := blk_frozen BK606.out 0; have hfz35_1 := blk_frozen BK606.out 1) | ((with_reducible refine gate_callee (f := 37) rfl ?_); refine goesL_ (some 46) rfl rfl Try.func37 (by kernel_rfl) rfl #[.agg #[.int .i64 t601, .slice Ao10 t602.length co10], .int .i64 t605] rfl (by (try simp only [List.map_toArray, List.map_cons, List.map_nil]); first | done | rfl | (simp only [List.length_drop, List.length_take]; rfl)) ?_; (with_reducible refine (impl_WaySources.calls kj5 t601 _ _ t602 t605 t611 true _ ?side1 ?side2 A17.out).mono ?_); (case side1 => repeat (first | exact (Kd.R_reads' HO_607001.out).2.2 | (with_reducible refine Kd.C_alloc ?_ _) | (with_reducible refine Kd.C_drewN ?_ _) | (with_reducible refine Kd.C_drew ?_))); (case side2 => exact (Kd.R_reads' HO_607001.out).2.1); rintro e w36 ⟨rfl, hb⟩; refine ⟨_, rfl, ?_⟩; have n0_ := Aside0.mk (Kd.R_below (by (with_reducible repeat (first | apply Kd.R_alloc | apply Kd.R_drewN | apply Kd.R_drew)); exact HO_607001.out) hb); have n1_ := Aside0.mk (blk_below (g := gb606) (o := .cells #[.int .i64 t601, .slice Ao10 t602.length co10] 25 (0, 0)) (by (with_reducible repeat (first | refine blk_drewN ?_ _ | refine blk_drew ?_ | refine blk_alloc ?_ _)); exact BK606.out) hb); have n2_ := Aside0.mk (below_step (by repeat (first | (with_reducible first | exact HB.out | apply below_alloc | apply pw_below_drewN | apply below_drew1 | refine below_set ?_ GE606.out) | exact HB.out)) hb); clear HO_607001; clear BK606; clear HB; have HO_607001 := n0_; have BK606 := n1_; have HB := n2_; clear n0_ n1_ n2_; (try clear hb); (try clear hb2); (try clear hk); (try clear hi); have hcz37_0 : w36.cell? ⟨gb606, 0, none⟩ = some (.int .i64 t601) := (blk_cell BK606.out 0).trans rfl; have hcz37_1 : w36.cell? ⟨gb606, 1, none⟩ = some (.slice Ao10 t602.length co10) := (blk_cell BK606.out 1).trans rfl; have hfz37_0 := blk_frozen BK606.out 0; have hfz37_1 := blk_frozen BK606.out 1) | ((with_reducible refine gate_callee (f := 39) rfl ?_); refine goesL_ (some 52) rfl rfl Try.func39 (by kernel_rfl) rfl #[.agg #[.int .i64 t601, .slice Ao10 t602.length co10], .int .i64 t605] rfl (by (try simp only [List.map_toArray, List.map_cons, List.map_nil]); first | done | rfl | (simp only [List.length_drop, List.length_take]; rfl)) ?_; (with_reducible refine (impl_WaySinks.calls kj5 t601 _ _ t602 t605 t613 true _ ?side1 ?side2 A18.out).mono ?_); (case side1 => repeat (first | exact (Kd.R_reads' HO_607001.out).2.2 | (with_reducible refine Kd.C_alloc ?_ _) | (with_reducible refine Kd.C_drewN ?_ _) | (with_reducible refine Kd.C_drew ?_))); (case side2 => exact (Kd.R_reads' HO_607001.out).2.1); rintro e w38 ⟨rfl, hb⟩; refine ⟨_, rfl, ?_⟩; have n0_ := Aside0.mk (Kd.R_below (by (with_reducible repeat (first | apply Kd.R_alloc | apply Kd.R_drewN | apply Kd.R_drew)); exact HO_607001.out) hb); have n1_ := Aside0.mk (blk_below (g := gb606) (o := .cells #[.int .i64 t601, .slice Ao10 t602.length co10] 25 (0, 0)) (by (with_reducible repeat (first | refine blk_drewN ?_ _ | refine blk_drew ?_ | refine blk_alloc ?_ _)); exact BK606.out) hb); have n2_ := Aside0.mk (below_step (by repeat (first | (with_reducible first | exact HB.out | apply below_alloc | apply pw_below_drewN | apply below_drew1 | refine below_set ?_ GE606.out) | exact HB.out)) hb); clear HO_607001; clear BK606; clear HB; have HO_607001 := n0_; have BK606 := n1_; have HB := n2_; clear n0_ n1_ n2_; (try clear hb); (try clear hb2); (try clear hk); (try clear hi)))
                    go_ret
                    exact ⟨by first | rfl | (simp [errW_none, errW_some] <;> rfl) | (simp [*, errW_none, errW_some] <;> rfl), by repeat (first | (with_reducible first | exact HB.out | apply below_alloc | apply pw_below_drewN | apply below_drew1 | refine below_set ?_ GE606.out) | exact HB.out)⟩
                · rw [if_neg c22] at H
                  have c22b0 : decide (0 < t611) = false := decide_eq_false c22
                  clear c22
                  obtain rfl := Option.some.inj H
                  have hcz39_0 : wc.cell? ⟨gb606, 0, none⟩ = some (.int .i64 t601) := (blk_cell BK606.out 0).trans rfl
                  have hcz39_1 : wc.cell? ⟨gb606, 1, none⟩ = some (.slice Ao10 t602.length co10) := (blk_cell BK606.out 1).trans rfl
                  have hfz39_0 := blk_frozen BK606.out 0
                  have hfz39_1 := blk_frozen BK606.out 1
                  go_wp2_with (first | ((with_reducible refine gate_callee (f := 32) rfl ?_); refine goesL_ (some 40) rfl rfl Try.func32 (by kernel_rfl) rfl #[.agg #[.int .i64 t601, .slice Ao10 t602.length co10], .int .i64 t605] rfl (by (try simp only [List.map_toArray, List.map_cons, List.map_nil]); first | done | rfl | (simp only [List.length_drop, List.length_take]; rfl)) ?_; (with_reducible refine (impl_WayTurned.calls kj5 t601 _ _ t602 t605 t609 true _ ?side1 ?side2 A16.out).mono ?_); (case side1 => repeat (first | exact (Kd.R_reads' HO_607001.out).2.2 | (with_reducible refine Kd.C_alloc ?_ _) | (with_reducible refine Kd.C_drewN ?_ _) | (with_reducible refine Kd.C_drew ?_))); (case side2 => exact (Kd.R_reads' HO_607001.out).2.1); rintro e w40 ⟨rfl, hb⟩; refine ⟨_, rfl, ?_⟩; have n0_ := Aside0.mk (Kd.R_below (by (with_reducible repeat (first | apply Kd.R_alloc | apply Kd.R_drewN | apply Kd.R_drew)); exact HO_607001.out) hb); have n1_ := Aside0.mk (blk_below (g := gb606) (o := .cells #[.int .i64 t601, .slice Ao10 t602.length co10] 25 (0, 0)) (by (with_reducible repeat (first | refine blk_drewN ?_ _ | refine blk_drew ?_ | refine blk_alloc ?_ _)); exact BK606.out) hb); have n2_ := Aside0.mk (below_step (by repeat (first | (with_reducible first | exact HB.out | apply below_alloc | apply pw_below_drewN | apply below_drew1 | refine below_set ?_ GE606.out) | exact HB.out)) hb); clear HO_607001; clear BK606; clear HB; have HO_607001 := n0_; have BK606 := n1_; have HB := n2_; clear n0_ n1_ n2_; (try clear hb); (try clear hb2); (try clear hk); (try clear hi); have hcz41_0 : w40.cell? ⟨gb606, 0, none⟩ = some (.int .i64 t601) := (blk_cell BK606.out 0).trans rfl; have hcz41_1 : w40.cell? ⟨gb606, 1, none⟩ = some (.slice Ao10 t602.length co10) := (blk_cell BK606.out 1).trans rfl; have hfz41_0 := blk_frozen BK606.out 0; have hfz41_1 := blk_frozen BK606.out 1) | ((with_reducible refine gate_callee (f := 37) rfl ?_); refine goesL_ (some 46) rfl rfl Try.func37 (by kernel_rfl) rfl #[.agg #[.int .i64 t601, .slice Ao10 t602.length co10], .int .i64 t605] rfl (by (try simp only [List.map_toArray, List.map_cons, List.map_nil]); first | done | rfl | (simp only [List.length_drop, List.length_take]; rfl)) ?_; (with_reducible refine (impl_WaySources.calls kj5 t601 _ _ t602 t605 t611 true _ ?side1 ?side2 A17.out).mono ?_); (case side1 => repeat (first | exact (Kd.R_reads' HO_607001.out).2.2 | (with_reducible refine Kd.C_alloc ?_ _) | (with_reducible refine Kd.C_drewN ?_ _) | (with_reducible refine Kd.C_drew ?_))); (case side2 => exact (Kd.R_reads' HO_607001.out).2.1); rintro e w42 ⟨rfl, hb⟩; refine ⟨_, rfl, ?_⟩; have n0_ := Aside0.mk (Kd.R_below (by (with_reducible repeat (first | apply Kd.R_alloc | apply Kd.R_drewN | apply Kd.R_drew)); exact HO_607001.out) hb); have n1_ := Aside0.mk (blk_below (g := gb606) (o := .cells #[.int .i64 t601, .slice Ao10 t602.length co10] 25 (0, 0)) (by (with_reducible repeat (first | refine blk_drewN ?_ _ | refine blk_drew ?_ | refine blk_alloc ?_ _)); exact BK606.out) hb); have n2_ := Aside0.mk (below_step (by repeat (first | (with_reducible first | exact HB.out | apply below_alloc | apply pw_below_drewN | apply below_drew1 | refine below_set ?_ GE606.out) | exact HB.out)) hb); clear HO_607001; clear BK606; clear HB; have HO_607001 := n0_; have BK606 := n1_; have HB := n2_; clear n0_ n1_ n2_; (try clear hb); (try clear hb2); (try clear hk); (try clear hi); have hcz43_0 : w42.cell? ⟨gb606, 0, none⟩ = some (.int .i64 t601) := (blk_cell BK606.out 0).trans rfl; have hcz43_1 : w42.cell? ⟨gb606, 1, none⟩ = some (.slice Ao10 t602.length co10) := (blk_cell BK606.out 1).trans rfl; have hfz43_0 := blk_frozen BK606.out 0; have hfz43_1 := blk_frozen BK606.out 1) | ((with_reducible refine gate_callee (f := 39) rfl ?_); refine goesL_ (some 52) rfl rfl Try.func39 (by kernel_rfl) rfl #[.agg #[.int .i64 t601, .slice Ao10 t602.length co10], .int .i64 t605] rfl (by (try simp only [List.map_toArray, List.map_cons, List.map_nil]); first | done | rfl | (simp only [List.length_drop, List.length_take]; rfl)) ?_; (with_reducible refine (impl_WaySinks.calls kj5 t601 _ _ t602 t605 t613 true _ ?side1 ?side2 A18.out).mono ?_); (case side1 => repeat (first | exact (Kd.R_reads' HO_607001.out).2.2 | (with_reducible refine Kd.C_alloc ?_ _) | (with_reducible refine Kd.C_drewN ?_ _) | (with_reducible refine Kd.C_drew ?_))); (case side2 => exact (Kd.R_reads' HO_607001.out).2.1); rintro e w44 ⟨rfl, hb⟩; refine ⟨_, rfl, ?_⟩; have n0_ := Aside0.mk (Kd.R_below (by (with_reducible repeat (first | apply Kd.R_alloc | apply Kd.R_drewN | apply Kd.R_drew)); exact HO_607001.out) hb); have n1_ := Aside0.mk (blk_below (g := gb606) (o := .cells #[.int .i64 t601, .slice Ao10 t602.length co10] 25 (0, 0)) (by (with_reducible repeat (first | refine blk_drewN ?_ _ | refine blk_drew ?_ | refine blk_alloc ?_ _)); exact BK606.out) hb); have n2_ := Aside0.mk (below_step (by repeat (first | (with_reducible first | exact HB.out | apply below_alloc | apply pw_below_drewN | apply below_drew1 | refine below_set ?_ GE606.out) | exact HB.out)) hb); clear HO_607001; clear BK606; clear HB; have HO_607001 := n0_; have BK606 := n1_; have HB := n2_; clear n0_ n1_ n2_; (try clear hb); (try clear hb2); (try clear hk); (try clear hi)))
                  go_ret
                  exact ⟨by first | rfl | (simp [errW_none, errW_some] <;> rfl) | (simp [*, errW_none, errW_some] <;> rfl), by repeat (first | (with_reducible first | exact HB.out | apply below_alloc | apply pw_below_drewN | apply below_drew1 | refine below_set ?_ GE606.out) | exact HB.out)⟩
              · replace c21 := Bool.eq_false_iff.mpr c21
                subst c21
                have H1 : (some false) = some r := by rw [if_neg (show ¬ (false = true) by decide)] at H; exact H
                clear H
                have H := H1
                clear H1
                obtain rfl := Option.some.inj H
                have hcz45_0 : wc.cell? ⟨gb606, 0, none⟩ = some (.int .i64 t601) := (blk_cell BK606.out 0).trans rfl
                have hcz45_1 : wc.cell? ⟨gb606, 1, none⟩ = some (.slice Ao10 t602.length co10) := (blk_cell BK606.out 1).trans rfl
                have hfz45_0 := blk_frozen BK606.out 0
                have hfz45_1 := blk_frozen BK606.out 1
                go_wp2_with (first | ((with_reducible refine gate_callee (f := 32) rfl ?_); refine goesL_ (some 40) rfl rfl Try.func32 (by kernel_rfl) rfl #[.agg #[.int .i64 t601, .slice Ao10 t602.length co10], .int .i64 t605] rfl (by (try simp only [List.map_toArray, List.map_cons, List.map_nil]); first | done | rfl | (simp only [List.length_drop, List.length_take]; rfl)) ?_; (with_reducible refine (impl_WayTurned.calls kj5 t601 _ _ t602 t605 t609 true _ ?side1 ?side2 A16.out).mono ?_); (case side1 => repeat (first | exact (Kd.R_reads' HO_607001.out).2.2 | (with_reducible refine Kd.C_alloc ?_ _) | (with_reducible refine Kd.C_drewN ?_ _) | (with_reducible refine Kd.C_drew ?_))); (case side2 => exact (Kd.R_reads' HO_607001.out).2.1); rintro e w46 ⟨rfl, hb⟩; refine ⟨_, rfl, ?_⟩; have n0_ := Aside0.mk (Kd.R_below (by (with_reducible repeat (first | apply Kd.R_alloc | apply Kd.R_drewN | apply Kd.R_drew)); exact HO_607001.out) hb); have n1_ := Aside0.mk (blk_below (g := gb606) (o := .cells #[.int .i64 t601, .slice Ao10 t602.length co10] 25 (0, 0)) (by (with_reducible repeat (first | refine blk_drewN ?_ _ | refine blk_drew ?_ | refine blk_alloc ?_ _)); exact BK606.out) hb); have n2_ := Aside0.mk (below_step (by repeat (first | (with_reducible first | exact HB.out | apply below_alloc | apply pw_below_drewN | apply below_drew1 | refine below_set ?_ GE606.out) | exact HB.out)) hb); clear HO_607001; clear BK606; clear HB; have HO_607001 := n0_; have BK606 := n1_; have HB := n2_; clear n0_ n1_ n2_; (try clear hb); (try clear hb2); (try clear hk); (try clear hi); have hcz47_0 : w46.cell? ⟨gb606, 0, none⟩ = some (.int .i64 t601) := (blk_cell BK606.out 0).trans rfl; have hcz47_1 : w46.cell? ⟨gb606, 1, none⟩ = some (.slice Ao10 t602.length co10) := (blk_cell BK606.out 1).trans rfl; have hfz47_0 := blk_frozen BK606.out 0; have hfz47_1 := blk_frozen BK606.out 1) | ((with_reducible refine gate_callee (f := 37) rfl ?_); refine goesL_ (some 46) rfl rfl Try.func37 (by kernel_rfl) rfl #[.agg #[.int .i64 t601, .slice Ao10 t602.length co10], .int .i64 t605] rfl (by (try simp only [List.map_toArray, List.map_cons, List.map_nil]); first | done | rfl | (simp only [List.length_drop, List.length_take]; rfl)) ?_; (with_reducible refine (impl_WaySources.calls kj5 t601 _ _ t602 t605 t611 true _ ?side1 ?side2 A17.out).mono ?_); (case side1 => repeat (first | exact (Kd.R_reads' HO_607001.out).2.2 | (with_reducible refine Kd.C_alloc ?_ _) | (with_reducible refine Kd.C_drewN ?_ _) | (with_reducible refine Kd.C_drew ?_))); (case side2 => exact (Kd.R_reads' HO_607001.out).2.1); rintro e w48 ⟨rfl, hb⟩; refine ⟨_, rfl, ?_⟩; have n0_ := Aside0.mk (Kd.R_below (by (with_reducible repeat (first | apply Kd.R_alloc | apply Kd.R_drewN | apply Kd.R_drew)); exact HO_607001.out) hb); have n1_ := Aside0.mk (blk_below (g := gb606) (o := .cells #[.int .i64 t601, .slice Ao10 t602.length co10] 25 (0, 0)) (by (with_reducible repeat (first | refine blk_drewN ?_ _ | refine blk_drew ?_ | refine blk_alloc ?_ _)); exact BK606.out) hb); have n2_ := Aside0.mk (below_step (by repeat (first | (with_reducible first | exact HB.out | apply below_alloc | apply pw_below_drewN | apply below_drew1 | refine below_set ?_ GE606.out) | exact HB.out)) hb); clear HO_607001; clear BK606; clear HB; have HO_607001 := n0_; have BK606 := n1_; have HB := n2_; clear n0_ n1_ n2_; (try clear hb); (try clear hb2); (try clear hk); (try clear hi); have hcz49_0 : w48.cell? ⟨gb606, 0, none⟩ = some (.int .i64 t601) := (blk_cell BK606.out 0).trans rfl; have hcz49_1 : w48.cell? ⟨gb606, 1, none⟩ = some (.slice Ao10 t602.length co10) := (blk_cell BK606.out 1).trans rfl; have hfz49_0 := blk_frozen BK606.out 0; have hfz49_1 := blk_frozen BK606.out 1) | ((with_reducible refine gate_callee (f := 39) rfl ?_); refine goesL_ (some 52) rfl rfl Try.func39 (by kernel_rfl) rfl #[.agg #[.int .i64 t601, .slice Ao10 t602.length co10], .int .i64 t605] rfl (by (try simp only [List.map_toArray, List.map_cons, List.map_nil]); first | done | rfl | (simp only [List.length_drop, List.length_take]; rfl)) ?_; (with_reducible refine (impl_WaySinks.calls kj5 t601 _ _ t602 t605 t613 false _ ?side1 ?side2 A18.out).mono ?_); (case side1 => repeat (first | exact (Kd.R_reads' HO_607001.out).2.2 | (with_reducible refine Kd.C_alloc ?_ _) | (with_reducible refine Kd.C_drewN ?_ _) | (with_reducible refine Kd.C_drew ?_))); (case side2 => exact (Kd.R_reads' HO_607001.out).2.1); rintro e w50 ⟨rfl, hb⟩; refine ⟨_, rfl, ?_⟩; have n0_ := Aside0.mk (Kd.R_below (by (with_reducible repeat (first | apply Kd.R_alloc | apply Kd.R_drewN | apply Kd.R_drew)); exact HO_607001.out) hb); have n1_ := Aside0.mk (blk_below (g := gb606) (o := .cells #[.int .i64 t601, .slice Ao10 t602.length co10] 25 (0, 0)) (by (with_reducible repeat (first | refine blk_drewN ?_ _ | refine blk_drew ?_ | refine blk_alloc ?_ _)); exact BK606.out) hb); have n2_ := Aside0.mk (below_step (by repeat (first | (with_reducible first | exact HB.out | apply below_alloc | apply pw_below_drewN | apply below_drew1 | refine below_set ?_ GE606.out) | exact HB.out)) hb); clear HO_607001; clear BK606; clear HB; have HO_607001 := n0_; have BK606 := n1_; have HB := n2_; clear n0_ n1_ n2_; (try clear hb); (try clear hb2); (try clear hk); (try clear hi)))
                go_ret
                exact ⟨by first | rfl | (simp [errW_none, errW_some] <;> rfl) | (simp [*, errW_none, errW_some] <;> rfl), by repeat (first | (with_reducible first | exact HB.out | apply below_alloc | apply pw_below_drewN | apply below_drew1 | refine below_set ?_ GE606.out) | exact HB.out)⟩
            · replace c20 := Bool.eq_false_iff.mpr c20
              subst c20
              have H1 : (some false) = some r := by rw [if_neg (show ¬ (false = true) by decide)] at H; exact H
              clear H
              have H := H1
              clear H1
              obtain rfl := Option.some.inj H
              have hcz51_0 : wc.cell? ⟨gb606, 0, none⟩ = some (.int .i64 t601) := (blk_cell BK606.out 0).trans rfl
              have hcz51_1 : wc.cell? ⟨gb606, 1, none⟩ = some (.slice Ao10 t602.length co10) := (blk_cell BK606.out 1).trans rfl
              have hfz51_0 := blk_frozen BK606.out 0
              have hfz51_1 := blk_frozen BK606.out 1
              go_wp2_with (first | ((with_reducible refine gate_callee (f := 32) rfl ?_); refine goesL_ (some 40) rfl rfl Try.func32 (by kernel_rfl) rfl #[.agg #[.int .i64 t601, .slice Ao10 t602.length co10], .int .i64 t605] rfl (by (try simp only [List.map_toArray, List.map_cons, List.map_nil]); first | done | rfl | (simp only [List.length_drop, List.length_take]; rfl)) ?_; (with_reducible refine (impl_WayTurned.calls kj5 t601 _ _ t602 t605 t609 true _ ?side1 ?side2 A16.out).mono ?_); (case side1 => repeat (first | exact (Kd.R_reads' HO_607001.out).2.2 | (with_reducible refine Kd.C_alloc ?_ _) | (with_reducible refine Kd.C_drewN ?_ _) | (with_reducible refine Kd.C_drew ?_))); (case side2 => exact (Kd.R_reads' HO_607001.out).2.1); rintro e w52 ⟨rfl, hb⟩; refine ⟨_, rfl, ?_⟩; have n0_ := Aside0.mk (Kd.R_below (by (with_reducible repeat (first | apply Kd.R_alloc | apply Kd.R_drewN | apply Kd.R_drew)); exact HO_607001.out) hb); have n1_ := Aside0.mk (blk_below (g := gb606) (o := .cells #[.int .i64 t601, .slice Ao10 t602.length co10] 25 (0, 0)) (by (with_reducible repeat (first | refine blk_drewN ?_ _ | refine blk_drew ?_ | refine blk_alloc ?_ _)); exact BK606.out) hb); have n2_ := Aside0.mk (below_step (by repeat (first | (with_reducible first | exact HB.out | apply below_alloc | apply pw_below_drewN | apply below_drew1 | refine below_set ?_ GE606.out) | exact HB.out)) hb); clear HO_607001; clear BK606; clear HB; have HO_607001 := n0_; have BK606 := n1_; have HB := n2_; clear n0_ n1_ n2_; (try clear hb); (try clear hb2); (try clear hk); (try clear hi); have hcz53_0 : w52.cell? ⟨gb606, 0, none⟩ = some (.int .i64 t601) := (blk_cell BK606.out 0).trans rfl; have hcz53_1 : w52.cell? ⟨gb606, 1, none⟩ = some (.slice Ao10 t602.length co10) := (blk_cell BK606.out 1).trans rfl; have hfz53_0 := blk_frozen BK606.out 0; have hfz53_1 := blk_frozen BK606.out 1) | ((with_reducible refine gate_callee (f := 37) rfl ?_); refine goesL_ (some 46) rfl rfl Try.func37 (by kernel_rfl) rfl #[.agg #[.int .i64 t601, .slice Ao10 t602.length co10], .int .i64 t605] rfl (by (try simp only [List.map_toArray, List.map_cons, List.map_nil]); first | done | rfl | (simp only [List.length_drop, List.length_take]; rfl)) ?_; (with_reducible refine (impl_WaySources.calls kj5 t601 _ _ t602 t605 t611 false _ ?side1 ?side2 A17.out).mono ?_); (case side1 => repeat (first | exact (Kd.R_reads' HO_607001.out).2.2 | (with_reducible refine Kd.C_alloc ?_ _) | (with_reducible refine Kd.C_drewN ?_ _) | (with_reducible refine Kd.C_drew ?_))); (case side2 => exact (Kd.R_reads' HO_607001.out).2.1); rintro e w54 ⟨rfl, hb⟩; refine ⟨_, rfl, ?_⟩; have n0_ := Aside0.mk (Kd.R_below (by (with_reducible repeat (first | apply Kd.R_alloc | apply Kd.R_drewN | apply Kd.R_drew)); exact HO_607001.out) hb); have n1_ := Aside0.mk (blk_below (g := gb606) (o := .cells #[.int .i64 t601, .slice Ao10 t602.length co10] 25 (0, 0)) (by (with_reducible repeat (first | refine blk_drewN ?_ _ | refine blk_drew ?_ | refine blk_alloc ?_ _)); exact BK606.out) hb); have n2_ := Aside0.mk (below_step (by repeat (first | (with_reducible first | exact HB.out | apply below_alloc | apply pw_below_drewN | apply below_drew1 | refine below_set ?_ GE606.out) | exact HB.out)) hb); clear HO_607001; clear BK606; clear HB; have HO_607001 := n0_; have BK606 := n1_; have HB := n2_; clear n0_ n1_ n2_; (try clear hb); (try clear hb2); (try clear hk); (try clear hi); have hcz55_0 : w54.cell? ⟨gb606, 0, none⟩ = some (.int .i64 t601) := (blk_cell BK606.out 0).trans rfl; have hcz55_1 : w54.cell? ⟨gb606, 1, none⟩ = some (.slice Ao10 t602.length co10) := (blk_cell BK606.out 1).trans rfl; have hfz55_0 := blk_frozen BK606.out 0; have hfz55_1 := blk_frozen BK606.out 1) | ((with_reducible refine gate_callee (f := 39) rfl ?_); refine goesL_ (some 52) rfl rfl Try.func39 (by kernel_rfl) rfl #[.agg #[.int .i64 t601, .slice Ao10 t602.length co10], .int .i64 t605] rfl (by (try simp only [List.map_toArray, List.map_cons, List.map_nil]); first | done | rfl | (simp only [List.length_drop, List.length_take]; rfl)) ?_; (with_reducible refine (impl_WaySinks.calls kj5 t601 _ _ t602 t605 t613 t614 _ ?side1 ?side2 A18.out).mono ?_); (case side1 => repeat (first | exact (Kd.R_reads' HO_607001.out).2.2 | (with_reducible refine Kd.C_alloc ?_ _) | (with_reducible refine Kd.C_drewN ?_ _) | (with_reducible refine Kd.C_drew ?_))); (case side2 => exact (Kd.R_reads' HO_607001.out).2.1); rintro e w56 ⟨rfl, hb⟩; refine ⟨_, rfl, ?_⟩; have n0_ := Aside0.mk (Kd.R_below (by (with_reducible repeat (first | apply Kd.R_alloc | apply Kd.R_drewN | apply Kd.R_drew)); exact HO_607001.out) hb); have n1_ := Aside0.mk (blk_below (g := gb606) (o := .cells #[.int .i64 t601, .slice Ao10 t602.length co10] 25 (0, 0)) (by (with_reducible repeat (first | refine blk_drewN ?_ _ | refine blk_drew ?_ | refine blk_alloc ?_ _)); exact BK606.out) hb); have n2_ := Aside0.mk (below_step (by repeat (first | (with_reducible first | exact HB.out | apply below_alloc | apply pw_below_drewN | apply below_drew1 | refine below_set ?_ GE606.out) | exact HB.out)) hb); clear HO_607001; clear BK606; clear HB; have HO_607001 := n0_; have BK606 := n1_; have HB := n2_; clear n0_ n1_ n2_; (try clear hb); (try clear hb2); (try clear hk); (try clear hi)))
              go_ret
              exact ⟨by first | rfl | (simp [errW_none, errW_some] <;> rfl) | (simp [*, errW_none, errW_some] <;> rfl), by repeat (first | (with_reducible first | exact HB.out | apply below_alloc | apply pw_below_drewN | apply below_drew1 | refine below_set ?_ GE606.out) | exact HB.out)⟩
          · replace c19 := Bool.eq_false_iff.mpr c19
            subst c19
            have H1 : (some false) = some r := by rw [if_neg (show ¬ (false = true) by decide)] at H; exact H
            clear H
            have H := H1
            clear H1
            obtain rfl := Option.some.inj H
            have hcz57_0 : wc.cell? ⟨gb606, 0, none⟩ = some (.int .i64 t601) := (blk_cell BK606.out 0).trans rfl
            have hcz57_1 : wc.cell? ⟨gb606, 1, none⟩ = some (.slice Ao10 t602.length co10) := (blk_cell BK606.out 1).trans rfl
            have hfz57_0 := blk_frozen BK606.out 0
            have hfz57_1 := blk_frozen BK606.out 1
            go_wp2_with (first | ((with_reducible refine gate_callee (f := 32) rfl ?_); refine goesL_ (some 40) rfl rfl Try.func32 (by kernel_rfl) rfl #[.agg #[.int .i64 t601, .slice Ao10 t602.length co10], .int .i64 t605] rfl (by (try simp only [List.map_toArray, List.map_cons, List.map_nil]); first | done | rfl | (simp only [List.length_drop, List.length_take]; rfl)) ?_; (with_reducible refine (impl_WayTurned.calls kj5 t601 _ _ t602 t605 t609 false _ ?side1 ?side2 A16.out).mono ?_); (case side1 => repeat (first | exact (Kd.R_reads' HO_607001.out).2.2 | (with_reducible refine Kd.C_alloc ?_ _) | (with_reducible refine Kd.C_drewN ?_ _) | (with_reducible refine Kd.C_drew ?_))); (case side2 => exact (Kd.R_reads' HO_607001.out).2.1); rintro e w58 ⟨rfl, hb⟩; refine ⟨_, rfl, ?_⟩; have n0_ := Aside0.mk (Kd.R_below (by (with_reducible repeat (first | apply Kd.R_alloc | apply Kd.R_drewN | apply Kd.R_drew)); exact HO_607001.out) hb); have n1_ := Aside0.mk (blk_below (g := gb606) (o := .cells #[.int .i64 t601, .slice Ao10 t602.length co10] 25 (0, 0)) (by (with_reducible repeat (first | refine blk_drewN ?_ _ | refine blk_drew ?_ | refine blk_alloc ?_ _)); exact BK606.out) hb); have n2_ := Aside0.mk (below_step (by repeat (first | (with_reducible first | exact HB.out | apply below_alloc | apply pw_below_drewN | apply below_drew1 | refine below_set ?_ GE606.out) | exact HB.out)) hb); clear HO_607001; clear BK606; clear HB; have HO_607001 := n0_; have BK606 := n1_; have HB := n2_; clear n0_ n1_ n2_; (try clear hb); (try clear hb2); (try clear hk); (try clear hi); have hcz59_0 : w58.cell? ⟨gb606, 0, none⟩ = some (.int .i64 t601) := (blk_cell BK606.out 0).trans rfl; have hcz59_1 : w58.cell? ⟨gb606, 1, none⟩ = some (.slice Ao10 t602.length co10) := (blk_cell BK606.out 1).trans rfl; have hfz59_0 := blk_frozen BK606.out 0; have hfz59_1 := blk_frozen BK606.out 1) | ((with_reducible refine gate_callee (f := 37) rfl ?_); refine goesL_ (some 46) rfl rfl Try.func37 (by kernel_rfl) rfl #[.agg #[.int .i64 t601, .slice Ao10 t602.length co10], .int .i64 t605] rfl (by (try simp only [List.map_toArray, List.map_cons, List.map_nil]); first | done | rfl | (simp only [List.length_drop, List.length_take]; rfl)) ?_; (with_reducible refine (impl_WaySources.calls kj5 t601 _ _ t602 t605 t611 t612 _ ?side1 ?side2 A17.out).mono ?_); (case side1 => repeat (first | exact (Kd.R_reads' HO_607001.out).2.2 | (with_reducible refine Kd.C_alloc ?_ _) | (with_reducible refine Kd.C_drewN ?_ _) | (with_reducible refine Kd.C_drew ?_))); (case side2 => exact (Kd.R_reads' HO_607001.out).2.1); rintro e w60 ⟨rfl, hb⟩; refine ⟨_, rfl, ?_⟩; have n0_ := Aside0.mk (Kd.R_below (by (with_reducible repeat (first | apply Kd.R_alloc | apply Kd.R_drewN | apply Kd.R_drew)); exact HO_607001.out) hb); have n1_ := Aside0.mk (blk_below (g := gb606) (o := .cells #[.int .i64 t601, .slice Ao10 t602.length co10] 25 (0, 0)) (by (with_reducible repeat (first | refine blk_drewN ?_ _ | refine blk_drew ?_ | refine blk_alloc ?_ _)); exact BK606.out) hb); have n2_ := Aside0.mk (below_step (by repeat (first | (with_reducible first | exact HB.out | apply below_alloc | apply pw_below_drewN | apply below_drew1 | refine below_set ?_ GE606.out) | exact HB.out)) hb); clear HO_607001; clear BK606; clear HB; have HO_607001 := n0_; have BK606 := n1_; have HB := n2_; clear n0_ n1_ n2_; (try clear hb); (try clear hb2); (try clear hk); (try clear hi); have hcz61_0 : w60.cell? ⟨gb606, 0, none⟩ = some (.int .i64 t601) := (blk_cell BK606.out 0).trans rfl; have hcz61_1 : w60.cell? ⟨gb606, 1, none⟩ = some (.slice Ao10 t602.length co10) := (blk_cell BK606.out 1).trans rfl; have hfz61_0 := blk_frozen BK606.out 0; have hfz61_1 := blk_frozen BK606.out 1) | ((with_reducible refine gate_callee (f := 39) rfl ?_); refine goesL_ (some 52) rfl rfl Try.func39 (by kernel_rfl) rfl #[.agg #[.int .i64 t601, .slice Ao10 t602.length co10], .int .i64 t605] rfl (by (try simp only [List.map_toArray, List.map_cons, List.map_nil]); first | done | rfl | (simp only [List.length_drop, List.length_take]; rfl)) ?_; (with_reducible refine (impl_WaySinks.calls kj5 t601 _ _ t602 t605 t613 t614 _ ?side1 ?side2 A18.out).mono ?_); (case side1 => repeat (first | exact (Kd.R_reads' HO_607001.out).2.2 | (with_reducible refine Kd.C_alloc ?_ _) | (with_reducible refine Kd.C_drewN ?_ _) | (with_reducible refine Kd.C_drew ?_))); (case side2 => exact (Kd.R_reads' HO_607001.out).2.1); rintro e w62 ⟨rfl, hb⟩; refine ⟨_, rfl, ?_⟩; have n0_ := Aside0.mk (Kd.R_below (by (with_reducible repeat (first | apply Kd.R_alloc | apply Kd.R_drewN | apply Kd.R_drew)); exact HO_607001.out) hb); have n1_ := Aside0.mk (blk_below (g := gb606) (o := .cells #[.int .i64 t601, .slice Ao10 t602.length co10] 25 (0, 0)) (by (with_reducible repeat (first | refine blk_drewN ?_ _ | refine blk_drew ?_ | refine blk_alloc ?_ _)); exact BK606.out) hb); have n2_ := Aside0.mk (below_step (by repeat (first | (with_reducible first | exact HB.out | apply below_alloc | apply pw_below_drewN | apply below_drew1 | refine below_set ?_ GE606.out) | exact HB.out)) hb); clear HO_607001; clear BK606; clear HB; have HO_607001 := n0_; have BK606 := n1_; have HB := n2_; clear n0_ n1_ n2_; (try clear hb); (try clear hb2); (try clear hk); (try clear hi)))
            go_ret
            exact ⟨by first | rfl | (simp [errW_none, errW_some] <;> rfl) | (simp [*, errW_none, errW_some] <;> rfl), by repeat (first | (with_reducible first | exact HB.out | apply below_alloc | apply pw_below_drewN | apply below_drew1 | refine below_set ?_ GE606.out) | exact HB.out)⟩

/-- THE ONE PURE STATEMENT of laws_FnPlain: yours. -/
def laws_FnPlain.Pure : Prop := ∀ (l0 : List Int), l0.length ≤ maxLen → l0.length * 1 ≤ 140737488351232 → (∀ x ∈ l0, (Lit.int .u8 x).wf = true) → ∃ k, laws_FnPlain.f k l0 = some true
theorem laws_FnPlain.walk (P : laws_FnPlain.Pure) (a0 : Option Addr) (len0 cap0 : Nat) (z0 : List Int) (w : World) (w0 : (a0 = none ∧ len0 = 0 ∧ cap0 = 0 ∧ z0 = []) ∨ ∃ x, a0 = some x ∧ len0 ≤ cap0 ∧ cap0 ≤ maxLen ∧ z0.length = cap0 ∧ (∀ i, i < z0.length → w.cell? (x.add i) = some (.int .u8 (z0.getD i 0))) ∧ ∀ n ∈ z0, (Lit.int .u8 n).wf = true) (y0 : len0 * 1 ≤ 140737488351232) :
    Calls Try.prog 12 #[.slice a0 len0 cap0] w fun e w' => e = .returned (.bool true) ∧ Below w.heap.size w w' := by
  obtain ⟨l0, rfl, hr0, hm0, hw0, hc0⟩ := ReadsInt.ofRowC w0
  obtain ⟨k, h⟩ := P l0 hm0 y0 hw0
  refine (laws_FnPlain.calls k _ _ l0 true w (Kd.C_of_reads (d := (0 : Int)) (h1 := fun _ => rfl) hr0) hc0 h).mono ?_
  rintro e w' ⟨rfl, hd⟩
  exact ⟨rfl, hd⟩

end Go.Proofs.Ytomaibajmlfhhaa.P
