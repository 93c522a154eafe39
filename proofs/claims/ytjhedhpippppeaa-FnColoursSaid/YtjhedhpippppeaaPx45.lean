-- PRINTED by print.py (a twelfth state) out of the translation. Not trusted: Lean checks it.
import Derived.Test.YtjhedhpippppeaaPx0
import Derived.Test.YtjhedhpippppeaaPx40
import Derived.Test.YtjhedhpippppeaaPx42
import Derived.Test.YtjhedhpippppeaaPx44
namespace Go.Proofs.Ytjhedhpippppeaa.P
open Go.RowKit Go.Proofs.YtjhedhpippppeaaW.PrintWords Go.Proofs.YtjhedhpippppeaaW.PrintLast Go.Proofs.YtjhedhpippppeaaW.PrintMore
attribute [local go_sem] max2_int min2_int max_two min_two max_three min_three max_four min_four   -- for this text's walks alone
set_option linter.unusedVariables false
set_option linter.unusedSimpArgs false

/-! ### laws_FnColours: function 5 -/
mutual
def laws_FnColours.j0 : Nat → Int → Int → Bool → Int → Bool → Bool → Int → List (S33) → Option (Bool)
  | 0, _, _, _, _, _, _, _, _ => none
  | k + 1, x4, x5, x6, x7, x8, x42, x420000, x420001 => if x42 = true then (if (x6 == x8) = true then (some (x5 == x7)) else (some false)) else (laws_FnColours.l0 k x4 x5 1 0 x420000 x420001)
def laws_FnColours.l0 : Nat → Int → Int → Int → Int → Int → List (S33) → Option (Bool)
  | 0, _, _, _, _, _, _ => none
  | k + 1, x4, x5, x9, x10, x420000, x420001 => if x10 < x420000 then (laws_FnColours.l0 k x4 x5 (wrap64 (x9 * x4)) (wrap64 (x10 + 1)) x420000 x420001) else (if x4 = 0 then (if x5 = 0 then (some true) else (if x4 > 0 then (if x5 ≥ 0 then (if x5 ≤ x9 then (none) else (some false)) else (some false)) else (some false))) else (if x4 > 0 then (if x5 ≥ 0 then (if x5 ≤ x9 then (if (Int.tmod x5 x4) = 0 then (if (x420001.length : Int) > 0 then (some true) else (some (x5 == x9))) else (some false)) else (some false)) else (some false)) else (some false)))
end
def laws_FnColours.f (k : Nat) (l0 : List Int) : Option (Bool) := if (l0.length : Int) > 1048576 then (some true) else ((spec_DrawPlainColours.f k l0).bind fun bt414 => ((impl_PlainColours.f k bt414.1 bt414.2.1 bt414.2.2).bind fun bt420 => ((spec_PlainColours.f k bt414.1 bt414.2.1 bt414.2.2).bind fun bt422 => (if (bt420.2 != bt422.2) = true then (laws_FnColours.j0 k bt414.2.2 bt420.1 bt420.2 bt422.1 bt422.2 true bt414.1 bt414.2.1) else (if bt420.1 = bt422.1 then (laws_FnColours.j0 k bt414.2.2 bt420.1 bt420.2 bt422.1 bt422.2 (!bt420.2) bt414.1 bt414.2.1) else (laws_FnColours.j0 k bt414.2.2 bt420.1 bt420.2 bt422.1 bt422.2 true bt414.1 bt414.2.1))))))
theorem laws_FnColours.mono_l : ∀ k, (∀ y0 y1 y2 y3 y4 y5 y6 y7, LeO (laws_FnColours.j0 k y0 y1 y2 y3 y4 y5 y6 y7) (laws_FnColours.j0 (k + 1) y0 y1 y2 y3 y4 y5 y6 y7)) ∧ (∀ y0 y1 y2 y3 y4 y5, LeO (laws_FnColours.l0 k y0 y1 y2 y3 y4 y5) (laws_FnColours.l0 (k + 1) y0 y1 y2 y3 y4 y5))
  | 0 => ⟨fun _ _ _ _ _ _ _ _ r h => by simp [laws_FnColours.j0] at h, fun _ _ _ _ _ _ r h => by simp [laws_FnColours.l0] at h⟩
  | k + 1 => by
    obtain ⟨ih0, ih1⟩ := laws_FnColours.mono_l k
    refine ⟨?_, ?_⟩
    · intro y0 y1 y2 y3 y4 y5 y6 y7
      unfold laws_FnColours.j0
      repeat' first
      | (with_reducible exact ih0 _ _ _ _ _ _ _ _)
      | (with_reducible exact ih1 _ _ _ _ _ _)
      | (with_reducible exact impl_PlainColours.mono _ _ _ _)
      | (with_reducible exact spec_DrawPlainColours.mono _ _)
      | (with_reducible exact spec_PlainColours.mono _ _ _ _)
      | (with_reducible exact LeO.refl _)
      | (with_reducible exact LeO.none _)
      | (with_reducible refine LeO.ite ?_ ?_)
      | (with_reducible refine LeO.bind ?_ (fun _ => ?_))
      | exact ih0 _ _ _ _ _ _ _ _
      | exact ih1 _ _ _ _ _ _
      | exact impl_PlainColours.mono _ _ _ _
      | exact spec_DrawPlainColours.mono _ _
      | exact spec_PlainColours.mono _ _ _ _
      | exact LeO.none _
      | refine LeO.ite ?_ ?_
      | refine LeO.bind ?_ (fun _ => ?_)
    · intro y0 y1 y2 y3 y4 y5
      unfold laws_FnColours.l0
      repeat' first
      | (with_reducible exact ih0 _ _ _ _ _ _ _ _)
      | (with_reducible exact ih1 _ _ _ _ _ _)
      | (with_reducible exact impl_PlainColours.mono _ _ _ _)
      | (with_reducible exact spec_DrawPlainColours.mono _ _)
      | (with_reducible exact spec_PlainColours.mono _ _ _ _)
      | (with_reducible exact LeO.refl _)
      | (with_reducible exact LeO.none _)
      | (with_reducible refine LeO.ite ?_ ?_)
      | (with_reducible refine LeO.bind ?_ (fun _ => ?_))
      | exact ih0 _ _ _ _ _ _ _ _
      | exact ih1 _ _ _ _ _ _
      | exact impl_PlainColours.mono _ _ _ _
      | exact spec_DrawPlainColours.mono _ _
      | exact spec_PlainColours.mono _ _ _ _
      | exact LeO.none _
      | refine LeO.ite ?_ ?_
      | refine LeO.bind ?_ (fun _ => ?_)
theorem laws_FnColours.mono : ∀ a0 k, LeO (laws_FnColours.f k a0) (laws_FnColours.f (k + 1) a0) := by
  intro a0 k
  obtain ⟨ih0, ih1⟩ := laws_FnColours.mono_l k
  unfold laws_FnColours.f
  repeat' first
      | (with_reducible exact ih0 _ _ _ _ _ _ _ _)
      | (with_reducible exact ih1 _ _ _ _ _ _)
      | (with_reducible exact impl_PlainColours.mono _ _ _ _)
      | (with_reducible exact spec_DrawPlainColours.mono _ _)
      | (with_reducible exact spec_PlainColours.mono _ _ _ _)
      | (with_reducible exact LeO.refl _)
      | (with_reducible exact LeO.none _)
      | (with_reducible refine LeO.ite ?_ ?_)
      | (with_reducible refine LeO.bind ?_ (fun _ => ?_))
      | exact ih0 _ _ _ _ _ _ _ _
      | exact ih1 _ _ _ _ _ _
      | exact impl_PlainColours.mono _ _ _ _
      | exact spec_DrawPlainColours.mono _ _
      | exact spec_PlainColours.mono _ _ _ _
      | exact LeO.none _
      | refine LeO.ite ?_ ?_
      | refine LeO.bind ?_ (fun _ => ?_)
set_option maxHeartbeats 8000000 in
set_option maxRecDepth 100000 in
theorem laws_FnColours.calls (k : Nat) (A0 : Option Addr) (c0 : Nat) (l0 : List Int) (r : Bool) (w : World) (hr0 : Kd.C (Kd.int .u8) w A0 l0.length l0) (hc0 : l0.length ≤ c0) (h : laws_FnColours.f k l0 = some r) :
    Calls Try.prog 5 #[.slice A0 l0.length c0] w fun e w' => e = .returned (.bool r) ∧ Below w.heap.size w w' := by
  have hu25 := Try.underlying25
  have HR0 := Aside0.mk hr0
  have HC0 := Aside0.mk hc0
  clear hr0 hc0
  have HB := Aside0.mk (Below.refl w.heap.size w)
  have H : (if (l0.length : Int) > 1048576 then (some true) else ((spec_DrawPlainColours.f k l0).bind fun bt414 => ((impl_PlainColours.f k bt414.1 bt414.2.1 bt414.2.2).bind fun bt420 => ((spec_PlainColours.f k bt414.1 bt414.2.1 bt414.2.2).bind fun bt422 => (if (bt420.2 != bt422.2) = true then (laws_FnColours.j0 k bt414.2.2 bt420.1 bt420.2 bt422.1 bt422.2 true bt414.1 bt414.2.1) else (if bt420.1 = bt422.1 then (laws_FnColours.j0 k bt414.2.2 bt420.1 bt420.2 bt422.1 bt422.2 (!bt420.2) bt414.1 bt414.2.1) else (laws_FnColours.j0 k bt414.2.2 bt420.1 bt420.2 bt422.1 bt422.2 true bt414.1 bt414.2.1))))))) = some r := h
  clear h
  by_cases c2 : (l0.length : Int) > 1048576
  · rw [if_pos c2] at H
    have c2b0 : decide (1048576 < (l0.length : Int)) = true := decide_eq_true c2
    have c2b1 : decide (1048576 < l0.length) = true := decide_eq_true (by omega)
    clear c2
    obtain rfl := Option.some.inj H
    go_enter Try.func5, Try.ntmps5
    go_wp2
    go_ret
    exact ⟨by first | rfl | (simp [errW_none, errW_some] <;> rfl) | (simp [*, errW_none, errW_some] <;> rfl), by repeat (first | (with_reducible first | exact HB.out | apply below_alloc | apply pw_below_drewN | apply below_drew1) | exact HB.out)⟩
  · rw [if_neg c2] at H
    have c2b0 : decide (1048576 < (l0.length : Int)) = false := decide_eq_false c2
    have c2b1 : decide (1048576 < l0.length) = false := decide_eq_false (by omega)
    clear c2
    replace H := Option.bind_eq_some_iff.mp H
    obtain ⟨⟨t414, t415, t418⟩, A30, H⟩ := H
    replace H : ((impl_PlainColours.f k t414 t415 t418).bind fun bt420 => ((spec_PlainColours.f k t414 t415 t418).bind fun bt422 => (if (bt420.2 != bt422.2) = true then (laws_FnColours.j0 k t418 bt420.1 bt420.2 bt422.1 bt422.2 true t414 t415) else (if bt420.1 = bt422.1 then (laws_FnColours.j0 k t418 bt420.1 bt420.2 bt422.1 bt422.2 (!bt420.2) t414 t415) else (laws_FnColours.j0 k t418 bt420.1 bt420.2 bt422.1 bt422.2 true t414 t415))))) = some r := H
    have A3 := Aside0.mk A30
    clear A30
    replace H := Option.bind_eq_some_iff.mp H
    obtain ⟨⟨t420, t421⟩, A40, H⟩ := H
    replace H : ((spec_PlainColours.f k t414 t415 t418).bind fun bt422 => (if (t421 != bt422.2) = true then (laws_FnColours.j0 k t418 t420 t421 bt422.1 bt422.2 true t414 t415) else (if t420 = bt422.1 then (laws_FnColours.j0 k t418 t420 t421 bt422.1 bt422.2 (!t421) t414 t415) else (laws_FnColours.j0 k t418 t420 t421 bt422.1 bt422.2 true t414 t415)))) = some r := H
    have A4 := Aside0.mk A40
    clear A40
    replace H := Option.bind_eq_some_iff.mp H
    obtain ⟨⟨t422, t423⟩, A50, H⟩ := H
    replace H : (if (t421 != t423) = true then (laws_FnColours.j0 k t418 t420 t421 t422 t423 true t414 t415) else (if t420 = t422 then (laws_FnColours.j0 k t418 t420 t421 t422 t423 (!t421) t414 t415) else (laws_FnColours.j0 k t418 t420 t421 t422 t423 true t414 t415))) = some r := H
    have A5 := Aside0.mk A50
    clear A50
    have HC6 := Aside0.mk H
    clear H
    go_enter Try.func5, Try.ntmps5
    go_upto_region 6 with (first | ((with_reducible refine gate_callee (f := 21) rfl ?_); refine goesL_ (some 16) rfl rfl Try.func21 (by kernel_rfl) rfl #[.slice A0 l0.length c0] rfl (by (try simp only [List.map_toArray, List.map_cons, List.map_nil]); first | done | rfl | (simp only [List.length_drop, List.length_take]; rfl)) ?_; (with_reducible refine (spec_DrawPlainColours.calls k _ _ l0 t414 t415 t418 _ ?side1 ?side2 A3.out).mono ?_); (case side1 => repeat (first | exact HR0.out | (with_reducible refine Kd.C_alloc ?_ _) | (with_reducible refine Kd.C_drewN ?_ _) | (with_reducible refine Kd.C_drew ?_))); (case side2 => exact HC0.out); rintro e w7 ⟨v416, rfl, ho0, hb⟩; refine ⟨_, rfl, ?_⟩; have n0_ := Aside0.mk (Kd.R_lower ho0 (below_size (by repeat (first | (with_reducible first | exact HB.out | apply below_alloc | apply pw_below_drewN | apply below_drew1) | exact HB.out)))); have n1_ := Aside0.mk (below_step (by repeat (first | (with_reducible first | exact HB.out | apply below_alloc | apply pw_below_drewN | apply below_drew1) | exact HB.out)) hb); clear HB; have HO417 := n0_; have HB := n1_; clear n0_ n1_; (try clear hb); (try clear hb2); (try clear hk); (try clear hi); (try clear ho0)) | ((with_reducible refine gate_dst (N := 3) rfl ?_); (try (refine gate_guard (by rfl) ?_; dsimp only)); refine box_event ?hg (N := 3) ?hd (cs := #[.int .i64 0, .slice none 0 0]) (t := 25) ?hr ?_; (case hd => rfl); (case hg => rfl); (case hr => first | (go_simp; done) | (go_simp; rfl)); intro gb419 hg w8 hbox hb; have n0_ := Aside0.mk (Kd.R_below (by (with_reducible repeat (first | apply Kd.R_alloc | apply Kd.R_drewN | apply Kd.R_drew)); exact HO417.out) hb); have n1_ := Aside0.mk (below_step (by repeat (first | (with_reducible first | exact HB.out | apply below_alloc | apply pw_below_drewN | apply below_drew1) | exact HB.out)) hb); have n2_ := Aside0.mk (hbox); have n3_ := Aside0.mk ((by rw [hg]; exact (below_size (by repeat (first | (with_reducible first | exact HB.out | apply below_alloc | apply pw_below_drewN | apply below_drew1) | exact HB.out))) : w.heap.size ≤ gb419)); have n4_ := Aside0.mk ((by rw [hg]; exact (below_size (by repeat (first | (with_reducible first | exact HB.out | apply below_alloc | apply pw_below_drewN | apply below_drew1) | exact HB.out))) : w.heap.size ≤ gb419)); clear HO417; clear HB; have HO417 := n0_; have HB := n1_; have BK419 := n2_; have GW419 := n3_; have GE419 := n4_; clear n0_ n1_ n2_ n3_ n4_; clear hb hbox hg; have hcz9_0 : w8.cell? ⟨gb419, 0, none⟩ = some (.int .i64 0) := (blk_cell BK419.out 0).trans rfl; have hcz9_1 : w8.cell? ⟨gb419, 1, none⟩ = some (.slice none 0 0) := (blk_cell BK419.out 1).trans rfl; have hfz9_0 := blk_frozen BK419.out 0; have hfz9_1 := blk_frozen BK419.out 1; obtain ⟨Ao10, co10, eo10⟩ := Kd.R_slice HO417.out; subst eo10) | ((with_reducible refine gate_callee (f := 22) rfl ?_); refine goesL_ (some 22) rfl rfl Try.func22 (by kernel_rfl) rfl #[.agg #[.int .i64 t414, .slice Ao10 t415.length co10], .int .i64 t418] rfl (by (try simp only [List.map_toArray, List.map_cons, List.map_nil]); first | done | rfl | (simp only [List.length_drop, List.length_take]; rfl)) ?_; (with_reducible refine (impl_PlainColours.calls k t414 _ _ t415 t418 t420 t421 _ ?side1 ?side2 A4.out).mono ?_); (case side1 => refine (Kd.R_reads' (e := 33) (base := w.heap.size) (ok := fun k_ => True) (n := t415.length) (c := co10) ?_).2.2; exact (by (with_reducible repeat (first | apply Kd.R_alloc | apply Kd.R_drewN | apply Kd.R_drew)); exact (Kd.R_mono (Kd.R_far (p := ⟨gb419, 1, none⟩) (Kd.R_far (p := ⟨gb419, 0, none⟩) (Kd.R_types HO417.out BK419.out (by decide)) (fun _ hk => hk.2) (.int .i64 t414)) (fun _ hk => hk.2) (.slice Ao10 t415.length co10)) (fun _ h_ => h_.1)))); (case side2 => exact (Kd.R_reads' HO417.out).2.1); rintro e w11 ⟨rfl, hb⟩; refine ⟨_, rfl, ?_⟩; have n0_ := Aside0.mk (Kd.R_below (by (with_reducible repeat (first | apply Kd.R_alloc | apply Kd.R_drewN | apply Kd.R_drew)); exact (Kd.R_mono (Kd.R_far (p := ⟨gb419, 1, none⟩) (Kd.R_far (p := ⟨gb419, 0, none⟩) (Kd.R_types HO417.out BK419.out (by decide)) (fun _ hk => hk.2) (.int .i64 t414)) (fun _ hk => hk.2) (.slice Ao10 t415.length co10)) (fun _ h_ => h_.1))) hb); have n1_ := Aside0.mk (blk_below (g := gb419) (o := .cells #[.int .i64 t414, .slice Ao10 t415.length co10] 25 (0, 0)) (by (with_reducible repeat (first | refine blk_drewN ?_ _ | refine blk_drew ?_ | refine blk_alloc ?_ _)); refine blk_put (cs := #[.int .i64 t414, .slice none 0 0]) ?_ 1 _ rfl; (with_reducible repeat (first | refine blk_drewN ?_ _ | refine blk_drew ?_ | refine blk_alloc ?_ _)); refine blk_put (cs := #[.int .i64 0, .slice none 0 0]) ?_ 0 _ rfl; (with_reducible repeat (first | refine blk_drewN ?_ _ | refine blk_drew ?_ | refine blk_alloc ?_ _)); exact BK419.out) hb); have n2_ := Aside0.mk (below_step (by repeat (first | (with_reducible first | exact HB.out | apply below_alloc | apply pw_below_drewN | apply below_drew1 | refine below_set ?_ GE419.out) | exact HB.out)) hb); clear HO417; clear BK419; clear HB; have HO417 := n0_; have BK419 := n1_; have HB := n2_; clear n0_ n1_ n2_; (try clear hb); (try clear hb2); (try clear hk); (try clear hi); have hcz12_0 : w11.cell? ⟨gb419, 0, none⟩ = some (.int .i64 t414) := (blk_cell BK419.out 0).trans rfl; have hcz12_1 : w11.cell? ⟨gb419, 1, none⟩ = some (.slice Ao10 t415.length co10) := (blk_cell BK419.out 1).trans rfl; have hfz12_0 := blk_frozen BK419.out 0; have hfz12_1 := blk_frozen BK419.out 1) | ((with_reducible refine gate_callee (f := 23) rfl ?_); refine goesL_ (some 28) rfl rfl Try.func23 (by kernel_rfl) rfl #[.agg #[.int .i64 t414, .slice Ao10 t415.length co10], .int .i64 t418] rfl (by (try simp only [List.map_toArray, List.map_cons, List.map_nil]); first | done | rfl | (simp only [List.length_drop, List.length_take]; rfl)) ?_; (with_reducible refine (spec_PlainColours.calls k t414 _ _ t415 t418 t422 t423 _ ?side1 ?side2 A5.out).mono ?_); (case side1 => repeat (first | exact (Kd.R_reads' HO417.out).2.2 | (with_reducible refine Kd.C_alloc ?_ _) | (with_reducible refine Kd.C_drewN ?_ _) | (with_reducible refine Kd.C_drew ?_))); (case side2 => exact (Kd.R_reads' HO417.out).2.1); rintro e w13 ⟨rfl, hb⟩; refine ⟨_, rfl, ?_⟩; have n0_ := Aside0.mk (Kd.R_below (by (with_reducible repeat (first | apply Kd.R_alloc | apply Kd.R_drewN | apply Kd.R_drew)); exact HO417.out) hb); have n1_ := Aside0.mk (blk_below (g := gb419) (o := .cells #[.int .i64 t414, .slice Ao10 t415.length co10] 25 (0, 0)) (by (with_reducible repeat (first | refine blk_drewN ?_ _ | refine blk_drew ?_ | refine blk_alloc ?_ _)); exact BK419.out) hb); have n2_ := Aside0.mk (below_step (by repeat (first | (with_reducible first | exact HB.out | apply below_alloc | apply pw_below_drewN | apply below_drew1 | refine below_set ?_ GE419.out) | exact HB.out)) hb); clear HO417; clear BK419; clear HB; have HO417 := n0_; have BK419 := n1_; have HB := n2_; clear n0_ n1_ n2_; (try clear hb); (try clear hb2); (try clear hk); (try clear hi)))
    (try simp only [Act.put, List.setIfInBounds_toArray, List.set_cons_zero, List.set_cons_succ])
    go_cut [42] (fun v42 wc => ∃ (kq : Nat) (x42_5 : Bool), v42 = .bool x42_5 ∧ Aside0 (laws_FnColours.j0 kq t418 t420 t421 t422 t423 x42_5 t414 t415 = some r) ∧ Aside0 (kq ≤ k) ∧ Aside0 (Kd.R k33 33 wc w.heap.size (fun _ => True) (.slice Ao10 t415.length co10) t415) ∧ Aside0 (wc.heap[gb419]? = some (.cells #[.int .i64 t414, (.slice Ao10 t415.length co10)] 25 (0, 0))) ∧ Aside0 (Below w.heap.size w wc))
    case first =>
      have H := HC6.out
      clear HC6
      by_cases c14 : (t421 != t423) = true
      · rw [if_pos c14] at H
        have c14b0 : (t421 != t423) = true := c14
        (try (have c14b1 : decide (t421 = t423) = false := by simpa using c14))
        (try (have c14b2 : (t421 == t423) = false := by simpa using c14))
        (try (have c14b3 : ¬ (t421 = t423) := by simpa using c14))
        clear c14
        (first | rw [c14b0] | (simp only [i64_w, i32_w]; rw [c14b0]) | skip)
        have H' := Aside0.mk H
        clear H
        go_wp2
        go_meet
        case rel => exact ⟨_, (true), (by first | rfl | (simp; done) | (simp [*]; done)), H', ⟨by first | omega | exact Nat.le_refl _⟩, ⟨by (with_reducible repeat (first | apply Kd.R_alloc | apply Kd.R_drewN | apply Kd.R_drew)); exact HO417.out⟩, ⟨by (with_reducible repeat (first | refine blk_drewN ?_ _ | refine blk_drew ?_ | refine blk_alloc ?_ _)); exact BK419.out⟩, ⟨by repeat (first | (with_reducible first | exact HB.out | apply below_alloc | apply pw_below_drewN | apply below_drew1 | refine below_set ?_ GE419.out) | exact HB.out)⟩⟩
      · rw [if_neg c14] at H
        have c14b0 : (t421 != t423) = false := by simpa using c14
        (try (have c14b1 : decide (t421 = t423) = true := by simpa using c14))
        (try (have c14b2 : (t421 == t423) = true := by simpa using c14))
        clear c14
        (first | rw [c14b0] | (simp only [i64_w, i32_w]; rw [c14b0]) | skip)
        by_cases c15 : t420 = t422
        · rw [if_pos c15] at H
          have c15b0 : (t420 == t422) = true := beq_iff_eq.mpr c15
          have c15b1 : (t420 != t422) = false := bne_eq_false_iff_eq.mpr c15
          clear c15
          have H' := Aside0.mk H
          clear H
          go_wp2
          go_meet
          case rel => exact ⟨_, (!t421), (by first | rfl | (simp; done) | (simp [*]; done)), H', ⟨by first | omega | exact Nat.le_refl _⟩, ⟨by (with_reducible repeat (first | apply Kd.R_alloc | apply Kd.R_drewN | apply Kd.R_drew)); exact HO417.out⟩, ⟨by (with_reducible repeat (first | refine blk_drewN ?_ _ | refine blk_drew ?_ | refine blk_alloc ?_ _)); exact BK419.out⟩, ⟨by repeat (first | (with_reducible first | exact HB.out | apply below_alloc | apply pw_below_drewN | apply below_drew1 | refine below_set ?_ GE419.out) | exact HB.out)⟩⟩
        · rw [if_neg c15] at H
          have c15b0 : (t420 == t422) = false := beq_eq_false_iff_ne.mpr c15
          have c15b1 : (t420 != t422) = true := bne_iff_ne.mpr c15
          have H' := Aside0.mk H
          clear H
          go_wp2
          go_meet
          case rel => exact ⟨_, (true), (by first | rfl | (simp; done) | (simp [*]; done)), H', ⟨by first | omega | exact Nat.le_refl _⟩, ⟨by (with_reducible repeat (first | apply Kd.R_alloc | apply Kd.R_drewN | apply Kd.R_drew)); exact HO417.out⟩, ⟨by (with_reducible repeat (first | refine blk_drewN ?_ _ | refine blk_drew ?_ | refine blk_alloc ?_ _)); exact BK419.out⟩, ⟨by repeat (first | (with_reducible first | exact HB.out | apply below_alloc | apply pw_below_drewN | apply below_drew1 | refine below_set ?_ GE419.out) | exact HB.out)⟩⟩
    case rest =>
      clear HC6
      try clear c1
      try clear c2
      try clear c2b0
      try clear c2b1
      try clear p2
      try clear c5
      try clear c14
      try clear c14b0
      try clear c14b1
      try clear c14b2
      try clear c15
      try clear c15b0
      try clear c15b1
      try clear hcz12_0
      try clear hcz12_1
      try clear hcz9_0
      try clear hcz9_1
      try clear hfz12_0
      try clear hfz12_1
      try clear hfz9_0
      try clear hfz9_1
      obtain ⟨kq, x42_5, rfl, HA, HJ5, HO_420001, BK419, HB⟩ := hcut
      cases kq with
      | zero => exact absurd HA.out (by simp [laws_FnColours.j0])
      | succ kj5 =>
        have H := HA.out
        clear HA
        simp only [laws_FnColours.j0] at H
        by_cases c16 : x42_5 = true
        · subst c16
          have H1 : (if (t421 == t423) = true then (some (t420 == t422)) else (some false)) = some r := by rw [if_pos rfl] at H; exact H
          clear H
          have H := H1
          clear H1
          by_cases c17 : (t421 == t423) = true
          · rw [if_pos c17] at H
            have c17b0 : (t421 == t423) = true := c17
            (try (have c17b1 : decide (t421 = t423) = true := by simpa using c17))
            (try (have c17b2 : (t421 == t423) = true := by simpa using c17))
            clear c17
            obtain rfl := Option.some.inj H
            go_wp2
            go_ret
            exact ⟨by first | rfl | (simp [errW_none, errW_some] <;> rfl) | (simp [*, errW_none, errW_some] <;> rfl), by repeat (first | (with_reducible first | exact HB.out | apply below_alloc | apply pw_below_drewN | apply below_drew1 | refine below_set ?_ GE419.out) | exact HB.out)⟩
          · rw [if_neg c17] at H
            have c17b0 : (t421 == t423) = false := by simpa using c17
            (try (have c17b1 : decide (t421 = t423) = false := by simpa using c17))
            (try (have c17b2 : (t421 == t423) = false := by simpa using c17))
            (try (have c17b3 : ¬ (t421 = t423) := by simpa using c17))
            clear c17
            obtain rfl := Option.some.inj H
            go_wp2
            go_ret
            exact ⟨by first | rfl | (simp [errW_none, errW_some] <;> rfl) | (simp [*, errW_none, errW_some] <;> rfl), by repeat (first | (with_reducible first | exact HB.out | apply below_alloc | apply pw_below_drewN | apply below_drew1 | refine below_set ?_ GE419.out) | exact HB.out)⟩
        · replace c16 := Bool.eq_false_iff.mpr c16
          subst c16
          have H1 : (laws_FnColours.l0 kj5 t418 t420 1 0 t414 t415) = some r := by rw [if_neg (show ¬ (false = true) by decide)] at H; exact H
          clear H
          have H := H1
          clear H1
          have H' := Aside0.mk H
          clear H
          go_wp2
          go_loopg [9, 10] kj5 (fun kq v9 v10 w' => ∃ (x9_2 : Int) (x10_2 : Int), v9 = .int .i64 x9_2 ∧ v10 = .int .i64 x10_2 ∧ Aside0 (laws_FnColours.l0 kq t418 t420 x9_2 x10_2 t414 t415 = some r) ∧ Aside0 (kq ≤ kj5) ∧ Aside0 (Kd.R k33 33 w' w.heap.size (fun _ => True) (.slice Ao10 t415.length co10) t415) ∧ Aside0 (w'.heap[gb419]? = some (.cells #[.int .i64 t414, (.slice Ao10 t415.length co10)] 25 (0, 0))) ∧ Aside0 (Below w.heap.size w w'))
          case atStart => exact ⟨(1), (0), (by first | rfl | (simp; done) | (simp [*]; done)), (by first | rfl | (simp; done) | (simp [*]; done)), H', ⟨Nat.le_refl _⟩, ⟨by (with_reducible repeat (first | apply Kd.R_alloc | apply Kd.R_drewN | apply Kd.R_drew)); exact HO_420001.out⟩, ⟨by (with_reducible repeat (first | refine blk_drewN ?_ _ | refine blk_drew ?_ | refine blk_alloc ?_ _)); exact BK419.out⟩, ⟨by repeat (first | (with_reducible first | exact HB.out | apply below_alloc | apply pw_below_drewN | apply below_drew1 | refine below_set ?_ GE419.out) | exact HB.out)⟩⟩
          case round =>
            clear H'
            try clear c1
            try clear c2
            try clear c2b0
            try clear c2b1
            try clear p2
            try clear c5
            try clear c14
            try clear c14b0
            try clear c14b1
            try clear c14b2
            try clear c15
            try clear c15b0
            try clear c15b1
            try clear c16
            try clear c17
            try clear c17b0
            try clear c17b1
            try clear c17b2
            try clear hcz12_0
            try clear hcz12_1
            try clear hcz9_0
            try clear hcz9_1
            try clear hfz12_0
            try clear hfz12_1
            try clear hfz9_0
            try clear hfz9_1
            try clear p2
            obtain ⟨x9_2, x10_2, rfl, rfl, HA, HK2, HO_420001, BK419, HB⟩ := hrel
            cases gk with
            | zero => exact absurd HA.out (by simp [laws_FnColours.l0])
            | succ k2 =>
              have H := HA.out
              clear HA
              simp only [laws_FnColours.l0] at H
              by_cases c18 : x10_2 < t414
              · rw [if_pos c18] at H
                have c18b0 : decide (x10_2 < t414) = true := decide_eq_true c18
                clear c18
                have H' := Aside0.mk H
                clear H
                have hcz19_0 : wr.cell? ⟨gb419, 0, none⟩ = some (.int .i64 t414) := (blk_cell BK419.out 0).trans rfl
                have hcz19_1 : wr.cell? ⟨gb419, 1, none⟩ = some (.slice Ao10 t415.length co10) := (blk_cell BK419.out 1).trans rfl
                have hfz19_0 := blk_frozen BK419.out 0
                have hfz19_1 := blk_frozen BK419.out 1
                go_wp2
                go_roundg k2
                case measure => have := HJ5.out; have := HK2.out; omega
                case rel => exact ⟨(wrap64 (x9_2 * t418)), (wrap64 (x10_2 + 1)), (by first | rfl | (simp; done) | (simp [*]; done)), (by first | rfl | (simp; done) | (simp [*]; done)), H', ⟨by have := HJ5.out; have := HK2.out; omega⟩, ⟨by (with_reducible repeat (first | apply Kd.R_alloc | apply Kd.R_drewN | apply Kd.R_drew)); exact HO_420001.out⟩, ⟨by (with_reducible repeat (first | refine blk_drewN ?_ _ | refine blk_drew ?_ | refine blk_alloc ?_ _)); exact BK419.out⟩, ⟨by repeat (first | (with_reducible first | exact HB.out | apply below_alloc | apply pw_below_drewN | apply below_drew1 | refine below_set ?_ GE419.out) | exact HB.out)⟩⟩
              · rw [if_neg c18] at H
                have c18b0 : decide (x10_2 < t414) = false := decide_eq_false c18
                clear c18
                by_cases c20 : t418 = 0
                · rw [if_pos c20] at H
                  have c20b0 : (t418 == 0) = true := beq_iff_eq.mpr c20
                  have c20b1 : (t418 != 0) = false := bne_eq_false_iff_eq.mpr c20
                  clear c20
                  by_cases c21 : t420 = 0
                  · rw [if_pos c21] at H
                    have c21b0 : (t420 == 0) = true := beq_iff_eq.mpr c21
                    have c21b1 : (t420 != 0) = false := bne_eq_false_iff_eq.mpr c21
                    clear c21
                    obtain rfl := Option.some.inj H
                    have hcz22_0 : wr.cell? ⟨gb419, 0, none⟩ = some (.int .i64 t414) := (blk_cell BK419.out 0).trans rfl
                    have hcz22_1 : wr.cell? ⟨gb419, 1, none⟩ = some (.slice Ao10 t415.length co10) := (blk_cell BK419.out 1).trans rfl
                    have hfz22_0 := blk_frozen BK419.out 0
                    have hfz22_1 := blk_frozen BK419.out 1
                    go_wp2
                    go_ret
                    exact ⟨by first | rfl | (simp [errW_none, errW_some] <;> rfl) | (simp [*, errW_none, errW_some] <;> rfl), by repeat (first | (with_reducible first | exact HB.out | apply below_alloc | apply pw_below_drewN | apply below_drew1 | refine below_set ?_ GE419.out) | exact HB.out)⟩
                  · rw [if_neg c21] at H
                    have c21b0 : (t420 == 0) = false := beq_eq_false_iff_ne.mpr c21
                    have c21b1 : (t420 != 0) = true := bne_iff_ne.mpr c21
                    by_cases c23 : t418 > 0
                    · rw [if_pos c23] at H
                      have c23b0 : decide (0 < t418) = true := decide_eq_true c23
                      clear c23
                      by_cases c24 : t420 ≥ 0
                      · rw [if_pos c24] at H
                        have c24b0 : decide (0 ≤ t420) = true := decide_eq_true c24
                        clear c24
                        by_cases c25 : t420 ≤ x9_2
                        · rw [if_pos c25] at H
                          exact absurd H (by simp)
                        · rw [if_neg c25] at H
                          have c25b0 : decide (t420 ≤ x9_2) = false := decide_eq_false c25
                          clear c25
                          obtain rfl := Option.some.inj H
                          have hcz26_0 : wr.cell? ⟨gb419, 0, none⟩ = some (.int .i64 t414) := (blk_cell BK419.out 0).trans rfl
                          have hcz26_1 : wr.cell? ⟨gb419, 1, none⟩ = some (.slice Ao10 t415.length co10) := (blk_cell BK419.out 1).trans rfl
                          have hfz26_0 := blk_frozen BK419.out 0
                          have hfz26_1 := blk_frozen BK419.out 1
                          go_wp2
                          go_ret
                          exact ⟨by first | rfl | (simp [errW_none, errW_some] <;> rfl) | (simp [*, errW_none, errW_some] <;> rfl), by repeat (first | (with_reducible first | exact HB.out | apply below_alloc | apply pw_below_drewN | apply below_drew1 | refine below_set ?_ GE419.out) | exact HB.out)⟩
                      · rw [if_neg c24] at H
                        have c24b0 : decide (0 ≤ t420) = false := decide_eq_false c24
                        clear c24
                        obtain rfl := Option.some.inj H
                        have hcz27_0 : wr.cell? ⟨gb419, 0, none⟩ = some (.int .i64 t414) := (blk_cell BK419.out 0).trans rfl
                        have hcz27_1 : wr.cell? ⟨gb419, 1, none⟩ = some (.slice Ao10 t415.length co10) := (blk_cell BK419.out 1).trans rfl
                        have hfz27_0 := blk_frozen BK419.out 0
                        have hfz27_1 := blk_frozen BK419.out 1
                        go_wp2
                        go_ret
                        exact ⟨by first | rfl | (simp [errW_none, errW_some] <;> rfl) | (simp [*, errW_none, errW_some] <;> rfl), by repeat (first | (with_reducible first | exact HB.out | apply below_alloc | apply pw_below_drewN | apply below_drew1 | refine below_set ?_ GE419.out) | exact HB.out)⟩
                    · rw [if_neg c23] at H
                      have c23b0 : decide (0 < t418) = false := decide_eq_false c23
                      clear c23
                      obtain rfl := Option.some.inj H
                      have hcz28_0 : wr.cell? ⟨gb419, 0, none⟩ = some (.int .i64 t414) := (blk_cell BK419.out 0).trans rfl
                      have hcz28_1 : wr.cell? ⟨gb419, 1, none⟩ = some (.slice Ao10 t415.length co10) := (blk_cell BK419.out 1).trans rfl
                      have hfz28_0 := blk_frozen BK419.out 0
                      have hfz28_1 := blk_frozen BK419.out 1
                      go_wp2
                      go_ret
                      exact ⟨by first | rfl | (simp [errW_none, errW_some] <;> rfl) | (simp [*, errW_none, errW_some] <;> rfl), by repeat (first | (with_reducible first | exact HB.out | apply below_alloc | apply pw_below_drewN | apply below_drew1 | refine below_set ?_ GE419.out) | exact HB.out)⟩
                · rw [if_neg c20] at H
                  have c20b0 : (t418 == 0) = false := beq_eq_false_iff_ne.mpr c20
                  have c20b1 : (t418 != 0) = true := bne_iff_ne.mpr c20
                  by_cases c29 : t418 > 0
                  · rw [if_pos c29] at H
                    have c29b0 : decide (0 < t418) = true := decide_eq_true c29
                    clear c29
                    by_cases c30 : t420 ≥ 0
                    · rw [if_pos c30] at H
                      have c30b0 : decide (0 ≤ t420) = true := decide_eq_true c30
                      clear c30
                      by_cases c31 : t420 ≤ x9_2
                      · rw [if_pos c31] at H
                        have c31b0 : decide (t420 ≤ x9_2) = true := decide_eq_true c31
                        clear c31
                        by_cases c32 : (Int.tmod t420 t418) = 0
                        · rw [if_pos c32] at H
                          have c32b0 : ((Int.tmod t420 t418) == 0) = true := beq_iff_eq.mpr c32
                          have c32b1 : ((Int.tmod t420 t418) != 0) = false := bne_eq_false_iff_eq.mpr c32
                          clear c32
                          by_cases c33 : (t415.length : Int) > 0
                          · rw [if_pos c33] at H
                            have c33b0 : decide (0 < (t415.length : Int)) = true := decide_eq_true c33
                            have c33b1 : decide (0 < t415.length) = true := decide_eq_true (by omega)
                            clear c33
                            obtain rfl := Option.some.inj H
                            have hcz34_0 : wr.cell? ⟨gb419, 0, none⟩ = some (.int .i64 t414) := (blk_cell BK419.out 0).trans rfl
                            have hcz34_1 : wr.cell? ⟨gb419, 1, none⟩ = some (.slice Ao10 t415.length co10) := (blk_cell BK419.out 1).trans rfl
                            have hfz34_0 := blk_frozen BK419.out 0
                            have hfz34_1 := blk_frozen BK419.out 1
                            go_wp2
                            go_ret
                            exact ⟨by first | rfl | (simp [errW_none, errW_some] <;> rfl) | (simp [*, errW_none, errW_some] <;> rfl), by repeat (first | (with_reducible first | exact HB.out | apply below_alloc | apply pw_below_drewN | apply below_drew1 | refine below_set ?_ GE419.out) | exact HB.out)⟩
                          · rw [if_neg c33] at H
                            have c33b0 : decide (0 < (t415.length : Int)) = false := decide_eq_false c33
                            have c33b1 : decide (0 < t415.length) = false := decide_eq_false (by omega)
                            clear c33
                            obtain rfl := Option.some.inj H
                            have hcz35_0 : wr.cell? ⟨gb419, 0, none⟩ = some (.int .i64 t414) := (blk_cell BK419.out 0).trans rfl
                            have hcz35_1 : wr.cell? ⟨gb419, 1, none⟩ = some (.slice Ao10 t415.length co10) := (blk_cell BK419.out 1).trans rfl
                            have hfz35_0 := blk_frozen BK419.out 0
                            have hfz35_1 := blk_frozen BK419.out 1
                            go_wp2
                            go_ret
                            exact ⟨by first | rfl | (simp [errW_none, errW_some] <;> rfl) | (simp [*, errW_none, errW_some] <;> rfl), by repeat (first | (with_reducible first | exact HB.out | apply below_alloc | apply pw_below_drewN | apply below_drew1 | refine below_set ?_ GE419.out) | exact HB.out)⟩
                        · rw [if_neg c32] at H
                          have c32b0 : ((Int.tmod t420 t418) == 0) = false := beq_eq_false_iff_ne.mpr c32
                          have c32b1 : ((Int.tmod t420 t418) != 0) = true := bne_iff_ne.mpr c32
                          obtain rfl := Option.some.inj H
                          have hcz36_0 : wr.cell? ⟨gb419, 0, none⟩ = some (.int .i64 t414) := (blk_cell BK419.out 0).trans rfl
                          have hcz36_1 : wr.cell? ⟨gb419, 1, none⟩ = some (.slice Ao10 t415.length co10) := (blk_cell BK419.out 1).trans rfl
                          have hfz36_0 := blk_frozen BK419.out 0
                          have hfz36_1 := blk_frozen BK419.out 1
                          go_wp2
                          go_ret
                          exact ⟨by first | rfl | (simp [errW_none, errW_some] <;> rfl) | (simp [*, errW_none, errW_some] <;> rfl), by repeat (first | (with_reducible first | exact HB.out | apply below_alloc | apply pw_below_drewN | apply below_drew1 | refine below_set ?_ GE419.out) | exact HB.out)⟩
                      · rw [if_neg c31] at H
                        have c31b0 : decide (t420 ≤ x9_2) = false := decide_eq_false c31
                        clear c31
                        obtain rfl := Option.some.inj H
                        have hcz37_0 : wr.cell? ⟨gb419, 0, none⟩ = some (.int .i64 t414) := (blk_cell BK419.out 0).trans rfl
                        have hcz37_1 : wr.cell? ⟨gb419, 1, none⟩ = some (.slice Ao10 t415.length co10) := (blk_cell BK419.out 1).trans rfl
                        have hfz37_0 := blk_frozen BK419.out 0
                        have hfz37_1 := blk_frozen BK419.out 1
                        go_wp2
                        go_ret
                        exact ⟨by first | rfl | (simp [errW_none, errW_some] <;> rfl) | (simp [*, errW_none, errW_some] <;> rfl), by repeat (first | (with_reducible first | exact HB.out | apply below_alloc | apply pw_below_drewN | apply below_drew1 | refine below_set ?_ GE419.out) | exact HB.out)⟩
                    · rw [if_neg c30] at H
                      have c30b0 : decide (0 ≤ t420) = false := decide_eq_false c30
                      clear c30
                      obtain rfl := Option.some.inj H
                      have hcz38_0 : wr.cell? ⟨gb419, 0, none⟩ = some (.int .i64 t414) := (blk_cell BK419.out 0).trans rfl
                      have hcz38_1 : wr.cell? ⟨gb419, 1, none⟩ = some (.slice Ao10 t415.length co10) := (blk_cell BK419.out 1).trans rfl
                      have hfz38_0 := blk_frozen BK419.out 0
                      have hfz38_1 := blk_frozen BK419.out 1
                      go_wp2
                      go_ret
                      exact ⟨by first | rfl | (simp [errW_none, errW_some] <;> rfl) | (simp [*, errW_none, errW_some] <;> rfl), by repeat (first | (with_reducible first | exact HB.out | apply below_alloc | apply pw_below_drewN | apply below_drew1 | refine below_set ?_ GE419.out) | exact HB.out)⟩
                  · rw [if_neg c29] at H
                    have c29b0 : decide (0 < t418) = false := decide_eq_false c29
                    clear c29
                    obtain rfl := Option.some.inj H
                    have hcz39_0 : wr.cell? ⟨gb419, 0, none⟩ = some (.int .i64 t414) := (blk_cell BK419.out 0).trans rfl
                    have hcz39_1 : wr.cell? ⟨gb419, 1, none⟩ = some (.slice Ao10 t415.length co10) := (blk_cell BK419.out 1).trans rfl
                    have hfz39_0 := blk_frozen BK419.out 0
                    have hfz39_1 := blk_frozen BK419.out 1
                    go_wp2
                    go_ret
                    exact ⟨by first | rfl | (simp [errW_none, errW_some] <;> rfl) | (simp [*, errW_none, errW_some] <;> rfl), by repeat (first | (with_reducible first | exact HB.out | apply below_alloc | apply pw_below_drewN | apply below_drew1 | refine below_set ?_ GE419.out) | exact HB.out)⟩

/-- THE ONE PURE STATEMENT of laws_FnColours: yours. -/
def laws_FnColours.Pure : Prop := ∀ (l0 : List Int), l0.length ≤ maxLen → l0.length * 1 ≤ 140737488351232 → (∀ x ∈ l0, (Lit.int .u8 x).wf = true) → ∃ k, laws_FnColours.f k l0 = some true
theorem laws_FnColours.walk (P : laws_FnColours.Pure) (a0 : Option Addr) (len0 cap0 : Nat) (z0 : List Int) (w : World) (w0 : (a0 = none ∧ len0 = 0 ∧ cap0 = 0 ∧ z0 = []) ∨ ∃ x, a0 = some x ∧ len0 ≤ cap0 ∧ cap0 ≤ maxLen ∧ z0.length = cap0 ∧ (∀ i, i < z0.length → w.cell? (x.add i) = some (.int .u8 (z0.getD i 0))) ∧ ∀ n ∈ z0, (Lit.int .u8 n).wf = true) (y0 : len0 * 1 ≤ 140737488351232) :
    Calls Try.prog 5 #[.slice a0 len0 cap0] w fun e w' => e = .returned (.bool true) ∧ Below w.heap.size w w' := by
  obtain ⟨l0, rfl, hr0, hm0, hw0, hc0⟩ := ReadsInt.ofRowC w0
  obtain ⟨k, h⟩ := P l0 hm0 y0 hw0
  refine (laws_FnColours.calls k _ _ l0 true w (Kd.C_of_reads (d := (0 : Int)) (h1 := fun _ => rfl) hr0) hc0 h).mono ?_
  rintro e w' ⟨rfl, hd⟩
  exact ⟨rfl, hd⟩

end Go.Proofs.Ytjhedhpippppeaa.P
