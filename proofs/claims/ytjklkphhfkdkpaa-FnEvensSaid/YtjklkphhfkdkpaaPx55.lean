-- PRINTED by print.py (a twelfth state) out of the translation. Not trusted: Lean checks it.
import Derived.Test.YtjklkphhfkdkpaaPx0
import Derived.Test.YtjklkphhfkdkpaaPx50
import Derived.Test.YtjklkphhfkdkpaaPx53
import Derived.Test.YtjklkphhfkdkpaaPx54
namespace Go.Proofs.Ytjklkphhfkdkpaa.P
open Go.RowKit Go.Proofs.YtjklkphhfkdkpaaW.PrintWords Go.Proofs.YtjklkphhfkdkpaaW.PrintLast Go.Proofs.YtjklkphhfkdkpaaW.PrintMore
attribute [local go_sem] max2_int min2_int max_two min_two max_three min_three max_four min_four   -- for this text's walks alone
set_option linter.unusedVariables false
set_option linter.unusedSimpArgs false

/-! ### laws_FnEvens: function 8 -/
mutual
def laws_FnEvens.j0 : Nat → Int → Bool → Int → Bool → Bool → Int → List (S37) → Option (Bool)
  | 0, _, _, _, _, _, _, _ => none
  | k + 1, x4, x5, x6, x7, x38, x495000, x495001 => if x38 = true then (if (x5 == x7) = true then (some (x4 == x6)) else (some false)) else (laws_FnEvens.l0 k x4 false 0 x495000 x495001)
def laws_FnEvens.l0 : Nat → Int → Bool → Int → Int → List (S37) → Option (Bool)
  | 0, _, _, _, _, _ => none
  | k + 1, x4, x8, x9, x495000, x495001 => if x9 < x495000 then (laws_FnEvens.l1 k x4 x8 x9 0 0 x495000 x495001) else (if ((x4 == 0) == x8) = true then (if (x495001.length : Int) = 0 then (if x4 = 1 then (some true) else (if (x495001.length : Int) > 0 then (some ((Int.tmod x4 2) == 0)) else (some false))) else (if (x495001.length : Int) > 0 then (some ((Int.tmod x4 2) == 0)) else (some false))) else (some false))
def laws_FnEvens.l1 : Nat → Int → Bool → Int → Int → Int → Int → List (S37) → Option (Bool)
  | 0, _, _, _, _, _, _, _ => none
  | k + 1, x4, x8, x9, x10, x11, x495000, x495001 => if x11 < (x495001.length : Int) then (if 0 ≤ x11 then (if ((rd_T37 x495001 x11).f0) = x9 then (laws_FnEvens.l1 k x4 x8 x9 (wrap64 (x10 + 1)) (wrap64 (x11 + 1)) x495000 x495001) else (if ((rd_T37 x495001 x11).f1) = x9 then (laws_FnEvens.l1 k x4 x8 x9 (wrap64 (x10 + 1)) (wrap64 (x11 + 1)) x495000 x495001) else (laws_FnEvens.l1 k x4 x8 x9 x10 (wrap64 (x11 + 1)) x495000 x495001))) else (none)) else (if x8 = true then (laws_FnEvens.l0 k x4 true (wrap64 (x9 + 1)) x495000 x495001) else (laws_FnEvens.l0 k x4 ((Int.tmod x10 2) == 1) (wrap64 (x9 + 1)) x495000 x495001))
end
def laws_FnEvens.f (k : Nat) (l0 : List Int) : Option (Bool) := if (l0.length : Int) > 1048576 then (some true) else ((spec_DrawScoreEvens.f k l0).bind fun bt490 => ((impl_ScoreEvens.f k bt490.1 bt490.2).bind fun bt495 => ((spec_ScoreEvens.f k bt490.1 bt490.2).bind fun bt497 => (if (bt495.2 != bt497.2) = true then (laws_FnEvens.j0 k bt495.1 bt495.2 bt497.1 bt497.2 true bt490.1 bt490.2) else (if bt495.1 = bt497.1 then (laws_FnEvens.j0 k bt495.1 bt495.2 bt497.1 bt497.2 (!bt495.2) bt490.1 bt490.2) else (laws_FnEvens.j0 k bt495.1 bt495.2 bt497.1 bt497.2 true bt490.1 bt490.2))))))
theorem laws_FnEvens.mono_l : ∀ k, (∀ y0 y1 y2 y3 y4 y5 y6, LeO (laws_FnEvens.j0 k y0 y1 y2 y3 y4 y5 y6) (laws_FnEvens.j0 (k + 1) y0 y1 y2 y3 y4 y5 y6)) ∧ (∀ y0 y1 y2 y3 y4, LeO (laws_FnEvens.l0 k y0 y1 y2 y3 y4) (laws_FnEvens.l0 (k + 1) y0 y1 y2 y3 y4)) ∧ (∀ y0 y1 y2 y3 y4 y5 y6, LeO (laws_FnEvens.l1 k y0 y1 y2 y3 y4 y5 y6) (laws_FnEvens.l1 (k + 1) y0 y1 y2 y3 y4 y5 y6))
  | 0 => ⟨fun _ _ _ _ _ _ _ r h => by simp [laws_FnEvens.j0] at h, fun _ _ _ _ _ r h => by simp [laws_FnEvens.l0] at h, fun _ _ _ _ _ _ _ r h => by simp [laws_FnEvens.l1] at h⟩
  | k + 1 => by
    obtain ⟨ih0, ih1, ih2⟩ := laws_FnEvens.mono_l k
    refine ⟨?_, ?_, ?_⟩
    · intro y0 y1 y2 y3 y4 y5 y6
      unfold laws_FnEvens.j0
      repeat' first
      | (with_reducible exact ih0 _ _ _ _ _ _ _)
      | (with_reducible exact ih1 _ _ _ _ _)
      | (with_reducible exact ih2 _ _ _ _ _ _ _)
      | (with_reducible exact impl_ScoreEvens.mono _ _ _)
      | (with_reducible exact spec_DrawScoreEvens.mono _ _)
      | (with_reducible exact spec_ScoreEvens.mono _ _ _)
      | (with_reducible exact LeO.refl _)
      | (with_reducible exact LeO.none _)
      | (with_reducible refine LeO.ite ?_ ?_)
      | (with_reducible refine LeO.bind ?_ (fun _ => ?_))
      | exact ih0 _ _ _ _ _ _ _
      | exact ih1 _ _ _ _ _
      | exact ih2 _ _ _ _ _ _ _
      | exact impl_ScoreEvens.mono _ _ _
      | exact spec_DrawScoreEvens.mono _ _
      | exact spec_ScoreEvens.mono _ _ _
      | exact LeO.none _
      | refine LeO.ite ?_ ?_
      | refine LeO.bind ?_ (fun _ => ?_)
    · intro y0 y1 y2 y3 y4
      unfold laws_FnEvens.l0
      repeat' first
      | (with_reducible exact ih0 _ _ _ _ _ _ _)
      | (with_reducible exact ih1 _ _ _ _ _)
      | (with_reducible exact ih2 _ _ _ _ _ _ _)
      | (with_reducible exact impl_ScoreEvens.mono _ _ _)
      | (with_reducible exact spec_DrawScoreEvens.mono _ _)
      | (with_reducible exact spec_ScoreEvens.mono _ _ _)
      | (with_reducible exact LeO.refl _)
      | (with_reducible exact LeO.none _)
      | (with_reducible refine LeO.ite ?_ ?_)
      | (with_reducible refine LeO.bind ?_ (fun _ => ?_))
      | exact ih0 _ _ _ _ _ _ _
      | exact ih1 _ _ _ _ _
      | exact ih2 _ _ _ _ _ _ _
      | exact impl_ScoreEvens.mono _ _ _
      | exact spec_DrawScoreEvens.mono _ _
      | exact spec_ScoreEvens.mono _ _ _
      | exact LeO.none _
      | refine LeO.ite ?_ ?_
      | refine LeO.bind ?_ (fun _ => ?_)
    · intro y0 y1 y2 y3 y4 y5 y6
      unfold laws_FnEvens.l1
      repeat' first
      | (with_reducible exact ih0 _ _ _ _ _ _ _)
      | (with_reducible exact ih1 _ _ _ _ _)
      | (with_reducible exact ih2 _ _ _ _ _ _ _)
      | (with_reducible exact impl_ScoreEvens.mono _ _ _)
      | (with_reducible exact spec_DrawScoreEvens.mono _ _)
      | (with_reducible exact spec_ScoreEvens.mono _ _ _)
      | (with_reducible exact LeO.refl _)
      | (with_reducible exact LeO.none _)
      | (with_reducible refine LeO.ite ?_ ?_)
      | (with_reducible refine LeO.bind ?_ (fun _ => ?_))
      | exact ih0 _ _ _ _ _ _ _
      | exact ih1 _ _ _ _ _
      | exact ih2 _ _ _ _ _ _ _
      | exact impl_ScoreEvens.mono _ _ _
      | exact spec_DrawScoreEvens.mono _ _
      | exact spec_ScoreEvens.mono _ _ _
      | exact LeO.none _
      | refine LeO.ite ?_ ?_
      | refine LeO.bind ?_ (fun _ => ?_)
theorem laws_FnEvens.mono : ∀ a0 k, LeO (laws_FnEvens.f k a0) (laws_FnEvens.f (k + 1) a0) := by
  intro a0 k
  obtain ⟨ih0, ih1, ih2⟩ := laws_FnEvens.mono_l k
  unfold laws_FnEvens.f
  repeat' first
      | (with_reducible exact ih0 _ _ _ _ _ _ _)
      | (with_reducible exact ih1 _ _ _ _ _)
      | (with_reducible exact ih2 _ _ _ _ _ _ _)
      | (with_reducible exact impl_ScoreEvens.mono _ _ _)
      | (with_reducible exact spec_DrawScoreEvens.mono _ _)
      | (with_reducible exact spec_ScoreEvens.mono _ _ _)
      | (with_reducible exact LeO.refl _)
      | (with_reducible exact LeO.none _)
      | (with_reducible refine LeO.ite ?_ ?_)
      | (with_reducible refine LeO.bind ?_ (fun _ => ?_))
      | exact ih0 _ _ _ _ _ _ _
      | exact ih1 _ _ _ _ _
      | exact ih2 _ _ _ _ _ _ _
      | exact impl_ScoreEvens.mono _ _ _
      | exact spec_DrawScoreEvens.mono _ _
      | exact spec_ScoreEvens.mono _ _ _
      | exact LeO.none _
      | refine LeO.ite ?_ ?_
      | refine LeO.bind ?_ (fun _ => ?_)
set_option maxHeartbeats 8000000 in
set_option maxRecDepth 100000 in
theorem laws_FnEvens.calls (k : Nat) (A0 : Option Addr) (c0 : Nat) (l0 : List Int) (r : Bool) (w : World) (hr0 : Kd.C (Kd.int .u8) w A0 l0.length l0) (hc0 : l0.length ≤ c0) (h : laws_FnEvens.f k l0 = some r) :
    Calls Try.prog 8 #[.slice A0 l0.length c0] w fun e w' => e = .returned (.bool r) ∧ Below w.heap.size w w' := by
  have hu25 := Try.underlying25
  have HR0 := Aside0.mk hr0
  have HC0 := Aside0.mk hc0
  clear hr0 hc0
  have HB := Aside0.mk (Below.refl w.heap.size w)
  have H : (if (l0.length : Int) > 1048576 then (some true) else ((spec_DrawScoreEvens.f k l0).bind fun bt490 => ((impl_ScoreEvens.f k bt490.1 bt490.2).bind fun bt495 => ((spec_ScoreEvens.f k bt490.1 bt490.2).bind fun bt497 => (if (bt495.2 != bt497.2) = true then (laws_FnEvens.j0 k bt495.1 bt495.2 bt497.1 bt497.2 true bt490.1 bt490.2) else (if bt495.1 = bt497.1 then (laws_FnEvens.j0 k bt495.1 bt495.2 bt497.1 bt497.2 (!bt495.2) bt490.1 bt490.2) else (laws_FnEvens.j0 k bt495.1 bt495.2 bt497.1 bt497.2 true bt490.1 bt490.2))))))) = some r := h
  clear h
  by_cases c2 : (l0.length : Int) > 1048576
  · rw [if_pos c2] at H
    have c2b0 : decide (1048576 < (l0.length : Int)) = true := decide_eq_true c2
    have c2b1 : decide (1048576 < l0.length) = true := decide_eq_true (by omega)
    clear c2
    obtain rfl := Option.some.inj H
    go_enter Try.func8, Try.ntmps8
    go_wp2
    go_ret
    exact ⟨by first | rfl | (simp [errW_none, errW_some] <;> rfl) | (simp [*, errW_none, errW_some] <;> rfl), by repeat (first | (with_reducible first | exact HB.out | apply below_alloc | apply pw_below_drewN | apply below_drew1) | exact HB.out)⟩
  · rw [if_neg c2] at H
    have c2b0 : decide (1048576 < (l0.length : Int)) = false := decide_eq_false c2
    have c2b1 : decide (1048576 < l0.length) = false := decide_eq_false (by omega)
    clear c2
    replace H := Option.bind_eq_some_iff.mp H
    obtain ⟨⟨t490, t491⟩, A30, H⟩ := H
    replace H : ((impl_ScoreEvens.f k t490 t491).bind fun bt495 => ((spec_ScoreEvens.f k t490 t491).bind fun bt497 => (if (bt495.2 != bt497.2) = true then (laws_FnEvens.j0 k bt495.1 bt495.2 bt497.1 bt497.2 true t490 t491) else (if bt495.1 = bt497.1 then (laws_FnEvens.j0 k bt495.1 bt495.2 bt497.1 bt497.2 (!bt495.2) t490 t491) else (laws_FnEvens.j0 k bt495.1 bt495.2 bt497.1 bt497.2 true t490 t491))))) = some r := H
    have A3 := Aside0.mk A30
    clear A30
    replace H := Option.bind_eq_some_iff.mp H
    obtain ⟨⟨t495, t496⟩, A40, H⟩ := H
    replace H : ((spec_ScoreEvens.f k t490 t491).bind fun bt497 => (if (t496 != bt497.2) = true then (laws_FnEvens.j0 k t495 t496 bt497.1 bt497.2 true t490 t491) else (if t495 = bt497.1 then (laws_FnEvens.j0 k t495 t496 bt497.1 bt497.2 (!t496) t490 t491) else (laws_FnEvens.j0 k t495 t496 bt497.1 bt497.2 true t490 t491)))) = some r := H
    have A4 := Aside0.mk A40
    clear A40
    replace H := Option.bind_eq_some_iff.mp H
    obtain ⟨⟨t497, t498⟩, A50, H⟩ := H
    replace H : (if (t496 != t498) = true then (laws_FnEvens.j0 k t495 t496 t497 t498 true t490 t491) else (if t495 = t497 then (laws_FnEvens.j0 k t495 t496 t497 t498 (!t496) t490 t491) else (laws_FnEvens.j0 k t495 t496 t497 t498 true t490 t491))) = some r := H
    have A5 := Aside0.mk A50
    clear A50
    have HC6 := Aside0.mk H
    clear H
    go_enter Try.func8, Try.ntmps8
    go_upto_region 6 with (first | ((with_reducible refine gate_callee (f := 33) rfl ?_); refine goesL_ (some 16) rfl rfl Try.func33 (by kernel_rfl) rfl #[.slice A0 l0.length c0] rfl (by (try simp only [List.map_toArray, List.map_cons, List.map_nil]); first | done | rfl | (simp only [List.length_drop, List.length_take]; rfl)) ?_; (with_reducible refine (spec_DrawScoreEvens.calls k _ _ l0 t490 t491 _ ?side1 ?side2 A3.out).mono ?_); (case side1 => repeat (first | exact HR0.out | (with_reducible refine Kd.C_alloc ?_ _) | (with_reducible refine Kd.C_drewN ?_ _) | (with_reducible refine Kd.C_drew ?_))); (case side2 => exact HC0.out); rintro e w7 ⟨v492, rfl, ho0, hb⟩; refine ⟨_, rfl, ?_⟩; have n0_ := Aside0.mk (Kd.R_lower ho0 (below_size (by repeat (first | (with_reducible first | exact HB.out | apply below_alloc | apply pw_below_drewN | apply below_drew1) | exact HB.out)))); have n1_ := Aside0.mk (below_step (by repeat (first | (with_reducible first | exact HB.out | apply below_alloc | apply pw_below_drewN | apply below_drew1) | exact HB.out)) hb); clear HB; have HO493 := n0_; have HB := n1_; clear n0_ n1_; (try clear hb); (try clear hb2); (try clear hk); (try clear hi); (try clear ho0)) | ((with_reducible refine gate_dst (N := 3) rfl ?_); (try (refine gate_guard (by rfl) ?_; dsimp only)); refine box_event ?hg (N := 3) ?hd (cs := #[.int .i64 0, .slice none 0 0]) (t := 25) ?hr ?_; (case hd => rfl); (case hg => rfl); (case hr => first | (go_simp; done) | (go_simp; rfl)); intro gb494 hg w8 hbox hb; have n0_ := Aside0.mk (Kd.R_below (by (with_reducible repeat (first | apply Kd.R_alloc | apply Kd.R_drewN | apply Kd.R_drew)); exact HO493.out) hb); have n1_ := Aside0.mk (below_step (by repeat (first | (with_reducible first | exact HB.out | apply below_alloc | apply pw_below_drewN | apply below_drew1) | exact HB.out)) hb); have n2_ := Aside0.mk (hbox); have n3_ := Aside0.mk ((by rw [hg]; exact (below_size (by repeat (first | (with_reducible first | exact HB.out | apply below_alloc | apply pw_below_drewN | apply below_drew1) | exact HB.out))) : w.heap.size ≤ gb494)); have n4_ := Aside0.mk ((by rw [hg]; exact (below_size (by repeat (first | (with_reducible first | exact HB.out | apply below_alloc | apply pw_below_drewN | apply below_drew1) | exact HB.out))) : w.heap.size ≤ gb494)); clear HO493; clear HB; have HO493 := n0_; have HB := n1_; have BK494 := n2_; have GW494 := n3_; have GE494 := n4_; clear n0_ n1_ n2_ n3_ n4_; clear hb hbox hg; have hcz9_0 : w8.cell? ⟨gb494, 0, none⟩ = some (.int .i64 0) := (blk_cell BK494.out 0).trans rfl; have hcz9_1 : w8.cell? ⟨gb494, 1, none⟩ = some (.slice none 0 0) := (blk_cell BK494.out 1).trans rfl; have hfz9_0 := blk_frozen BK494.out 0; have hfz9_1 := blk_frozen BK494.out 1; obtain ⟨Ao10, co10, eo10⟩ := Kd.R_slice HO493.out; subst eo10) | ((with_reducible refine gate_callee (f := 34) rfl ?_); refine goesL_ (some 19) rfl rfl Try.func34 (by kernel_rfl) rfl #[.agg #[.int .i64 t490, .slice Ao10 t491.length co10]] rfl (by (try simp only [List.map_toArray, List.map_cons, List.map_nil]); first | done | rfl | (simp only [List.length_drop, List.length_take]; rfl)) ?_; (with_reducible refine (impl_ScoreEvens.calls k t490 _ _ t491 t495 t496 _ ?side1 ?side2 A4.out).mono ?_); (case side1 => refine (Kd.R_reads' (e := 37) (base := w.heap.size) (ok := fun k_ => True) (n := t491.length) (c := co10) ?_).2.2; exact (by (with_reducible repeat (first | apply Kd.R_alloc | apply Kd.R_drewN | apply Kd.R_drew)); exact (Kd.R_mono (Kd.R_far (p := ⟨gb494, 1, none⟩) (Kd.R_far (p := ⟨gb494, 0, none⟩) (Kd.R_types HO493.out BK494.out (by decide)) (fun _ hk => hk.2) (.int .i64 t490)) (fun _ hk => hk.2) (.slice Ao10 t491.length co10)) (fun _ h_ => h_.1)))); (case side2 => exact (Kd.R_reads' HO493.out).2.1); rintro e w11 ⟨rfl, hb⟩; refine ⟨_, rfl, ?_⟩; have n0_ := Aside0.mk (Kd.R_below (by (with_reducible repeat (first | apply Kd.R_alloc | apply Kd.R_drewN | apply Kd.R_drew)); exact (Kd.R_mono (Kd.R_far (p := ⟨gb494, 1, none⟩) (Kd.R_far (p := ⟨gb494, 0, none⟩) (Kd.R_types HO493.out BK494.out (by decide)) (fun _ hk => hk.2) (.int .i64 t490)) (fun _ hk => hk.2) (.slice Ao10 t491.length co10)) (fun _ h_ => h_.1))) hb); have n1_ := Aside0.mk (blk_below (g := gb494) (o := .cells #[.int .i64 t490, .slice Ao10 t491.length co10] 25 (0, 0)) (by (with_reducible repeat (first | refine blk_drewN ?_ _ | refine blk_drew ?_ | refine blk_alloc ?_ _)); refine blk_put (cs := #[.int .i64 t490, .slice none 0 0]) ?_ 1 _ rfl; (with_reducible repeat (first | refine blk_drewN ?_ _ | refine blk_drew ?_ | refine blk_alloc ?_ _)); refine blk_put (cs := #[.int .i64 0, .slice none 0 0]) ?_ 0 _ rfl; (with_reducible repeat (first | refine blk_drewN ?_ _ | refine blk_drew ?_ | refine blk_alloc ?_ _)); exact BK494.out) hb); have n2_ := Aside0.mk (below_step (by repeat (first | (with_reducible first | exact HB.out | apply below_alloc | apply pw_below_drewN | apply below_drew1 | refine below_set ?_ GE494.out) | exact HB.out)) hb); clear HO493; clear BK494; clear HB; have HO493 := n0_; have BK494 := n1_; have HB := n2_; clear n0_ n1_ n2_; (try clear hb); (try clear hb2); (try clear hk); (try clear hi); have hcz12_0 : w11.cell? ⟨gb494, 0, none⟩ = some (.int .i64 t490) := (blk_cell BK494.out 0).trans rfl; have hcz12_1 : w11.cell? ⟨gb494, 1, none⟩ = some (.slice Ao10 t491.length co10) := (blk_cell BK494.out 1).trans rfl; have hfz12_0 := blk_frozen BK494.out 0; have hfz12_1 := blk_frozen BK494.out 1) | ((with_reducible refine gate_callee (f := 35) rfl ?_); refine goesL_ (some 24) rfl rfl Try.func35 (by kernel_rfl) rfl #[.agg #[.int .i64 t490, .slice Ao10 t491.length co10]] rfl (by (try simp only [List.map_toArray, List.map_cons, List.map_nil]); first | done | rfl | (simp only [List.length_drop, List.length_take]; rfl)) ?_; (with_reducible refine (spec_ScoreEvens.calls k t490 _ _ t491 t497 t498 _ ?side1 ?side2 A5.out).mono ?_); (case side1 => repeat (first | exact (Kd.R_reads' HO493.out).2.2 | (with_reducible refine Kd.C_alloc ?_ _) | (with_reducible refine Kd.C_drewN ?_ _) | (with_reducible refine Kd.C_drew ?_))); (case side2 => exact (Kd.R_reads' HO493.out).2.1); rintro e w13 ⟨rfl, hb⟩; refine ⟨_, rfl, ?_⟩; have n0_ := Aside0.mk (Kd.R_below (by (with_reducible repeat (first | apply Kd.R_alloc | apply Kd.R_drewN | apply Kd.R_drew)); exact HO493.out) hb); have n1_ := Aside0.mk (blk_below (g := gb494) (o := .cells #[.int .i64 t490, .slice Ao10 t491.length co10] 25 (0, 0)) (by (with_reducible repeat (first | refine blk_drewN ?_ _ | refine blk_drew ?_ | refine blk_alloc ?_ _)); exact BK494.out) hb); have n2_ := Aside0.mk (below_step (by repeat (first | (with_reducible first | exact HB.out | apply below_alloc | apply pw_below_drewN | apply below_drew1 | refine below_set ?_ GE494.out) | exact HB.out)) hb); clear HO493; clear BK494; clear HB; have HO493 := n0_; have BK494 := n1_; have HB := n2_; clear n0_ n1_ n2_; (try clear hb); (try clear hb2); (try clear hk); (try clear hi)))
    (try simp only [Act.put, List.setIfInBounds_toArray, List.set_cons_zero, List.set_cons_succ])
    go_cut [38] (fun v38 wc => ∃ (kq : Nat) (x38_5 : Bool), v38 = .bool x38_5 ∧ Aside0 (laws_FnEvens.j0 kq t495 t496 t497 t498 x38_5 t490 t491 = some r) ∧ Aside0 (kq ≤ k) ∧ Aside0 (Kd.R k37 37 wc w.heap.size (fun _ => True) (.slice Ao10 t491.length co10) t491) ∧ Aside0 (wc.heap[gb494]? = some (.cells #[.int .i64 t490, (.slice Ao10 t491.length co10)] 25 (0, 0))) ∧ Aside0 (Below w.heap.size w wc))
    case first =>
      have H := HC6.out
      clear HC6
      by_cases c14 : (t496 != t498) = true
      · rw [if_pos c14] at H
        have c14b0 : (t496 != t498) = true := c14
        (try (have c14b1 : decide (t496 = t498) = false := by simpa using c14))
        (try (have c14b2 : (t496 == t498) = false := by simpa using c14))
        (try (have c14b3 : ¬ (t496 = t498) := by simpa using c14))
        clear c14
        (first | rw [c14b0] | (simp only [i64_w, i32_w]; rw [c14b0]) | skip)
        have H' := Aside0.mk H
        clear H
        go_wp2
        go_meet
        case rel => exact ⟨_, (true), (by first | rfl | (simp; done) | (simp [*]; done)), H', ⟨by first | omega | exact Nat.le_refl _⟩, ⟨by (with_reducible repeat (first | apply Kd.R_alloc | apply Kd.R_drewN | apply Kd.R_drew)); exact HO493.out⟩, ⟨by (with_reducible repeat (first | refine blk_drewN ?_ _ | refine blk_drew ?_ | refine blk_alloc ?_ _)); exact BK494.out⟩, ⟨by repeat (first | (with_reducible first | exact HB.out | apply below_alloc | apply pw_below_drewN | apply below_drew1 | refine below_set ?_ GE494.out) | exact HB.out)⟩⟩
      · rw [if_neg c14] at H
        have c14b0 : (t496 != t498) = false := by simpa using c14
        (try (have c14b1 : decide (t496 = t498) = true := by simpa using c14))
        (try (have c14b2 : (t496 == t498) = true := by simpa using c14))
        clear c14
        (first | rw [c14b0] | (simp only [i64_w, i32_w]; rw [c14b0]) | skip)
        by_cases c15 : t495 = t497
        · rw [if_pos c15] at H
          have c15b0 : (t495 == t497) = true := beq_iff_eq.mpr c15
          have c15b1 : (t495 != t497) = false := bne_eq_false_iff_eq.mpr c15
          clear c15
          have H' := Aside0.mk H
          clear H
          go_wp2
          go_meet
          case rel => exact ⟨_, (!t496), (by first | rfl | (simp; done) | (simp [*]; done)), H', ⟨by first | omega | exact Nat.le_refl _⟩, ⟨by (with_reducible repeat (first | apply Kd.R_alloc | apply Kd.R_drewN | apply Kd.R_drew)); exact HO493.out⟩, ⟨by (with_reducible repeat (first | refine blk_drewN ?_ _ | refine blk_drew ?_ | refine blk_alloc ?_ _)); exact BK494.out⟩, ⟨by repeat (first | (with_reducible first | exact HB.out | apply below_alloc | apply pw_below_drewN | apply below_drew1 | refine below_set ?_ GE494.out) | exact HB.out)⟩⟩
        · rw [if_neg c15] at H
          have c15b0 : (t495 == t497) = false := beq_eq_false_iff_ne.mpr c15
          have c15b1 : (t495 != t497) = true := bne_iff_ne.mpr c15
          have H' := Aside0.mk H
          clear H
          go_wp2
          go_meet
          case rel => exact ⟨_, (true), (by first | rfl | (simp; done) | (simp [*]; done)), H', ⟨by first | omega | exact Nat.le_refl _⟩, ⟨by (with_reducible repeat (first | apply Kd.R_alloc | apply Kd.R_drewN | apply Kd.R_drew)); exact HO493.out⟩, ⟨by (with_reducible repeat (first | refine blk_drewN ?_ _ | refine blk_drew ?_ | refine blk_alloc ?_ _)); exact BK494.out⟩, ⟨by repeat (first | (with_reducible first | exact HB.out | apply below_alloc | apply pw_below_drewN | apply below_drew1 | refine below_set ?_ GE494.out) | exact HB.out)⟩⟩
    case rest =>
      clear HC6
      try clear c1
      try clear c2
      try clear c2b0
      try clear c2b1
      try clear p2
      try clear c3
      try clear c8
      try clear c14
      try clear c14b0
      try clear c14b1
      try clear c14b2
      try clear c15
      try clear c15b0
      try clear c15b1
      try clear hcz12_0
      try clear hcz12_1
      try clear hcz9_0
      try clear hcz9_1
      try clear hfz12_0
      try clear hfz12_1
      try clear hfz9_0
      try clear hfz9_1
      obtain ⟨kq, x38_5, rfl, HA, HJ5, HO_495001, BK494, HB⟩ := hcut
      cases kq with
      | zero => exact absurd HA.out (by simp [laws_FnEvens.j0])
      | succ kj5 =>
        have H := HA.out
        clear HA
        simp only [laws_FnEvens.j0] at H
        by_cases c16 : x38_5 = true
        · subst c16
          have H1 : (if (t496 == t498) = true then (some (t495 == t497)) else (some false)) = some r := by rw [if_pos rfl] at H; exact H
          clear H
          have H := H1
          clear H1
          by_cases c17 : (t496 == t498) = true
          · rw [if_pos c17] at H
            have c17b0 : (t496 == t498) = true := c17
            (try (have c17b1 : decide (t496 = t498) = true := by simpa using c17))
            (try (have c17b2 : (t496 == t498) = true := by simpa using c17))
            clear c17
            obtain rfl := Option.some.inj H
            go_wp2
            go_ret
            exact ⟨by first | rfl | (simp [errW_none, errW_some] <;> rfl) | (simp [*, errW_none, errW_some] <;> rfl), by repeat (first | (with_reducible first | exact HB.out | apply below_alloc | apply pw_below_drewN | apply below_drew1 | refine below_set ?_ GE494.out) | exact HB.out)⟩
          · rw [if_neg c17] at H
            have c17b0 : (t496 == t498) = false := by simpa using c17
            (try (have c17b1 : decide (t496 = t498) = false := by simpa using c17))
            (try (have c17b2 : (t496 == t498) = false := by simpa using c17))
            (try (have c17b3 : ¬ (t496 = t498) := by simpa using c17))
            clear c17
            obtain rfl := Option.some.inj H
            go_wp2
            go_ret
            exact ⟨by first | rfl | (simp [errW_none, errW_some] <;> rfl) | (simp [*, errW_none, errW_some] <;> rfl), by repeat (first | (with_reducible first | exact HB.out | apply below_alloc | apply pw_below_drewN | apply below_drew1 | refine below_set ?_ GE494.out) | exact HB.out)⟩
        · replace c16 := Bool.eq_false_iff.mpr c16
          subst c16
          have H1 : (laws_FnEvens.l0 kj5 t495 false 0 t490 t491) = some r := by rw [if_neg (show ¬ (false = true) by decide)] at H; exact H
          clear H
          have H := H1
          clear H1
          have H' := Aside0.mk H
          clear H
          go_wp2
          go_loopg [8, 9] kj5 (fun kq v8 v9 w' => ∃ (x8_2 : Bool) (x9_2 : Int), v8 = .bool x8_2 ∧ v9 = .int .i64 x9_2 ∧ Aside0 (laws_FnEvens.l0 kq t495 x8_2 x9_2 t490 t491 = some r) ∧ Aside0 (kq ≤ kj5) ∧ Aside0 (Kd.R k37 37 w' w.heap.size (fun _ => True) (.slice Ao10 t491.length co10) t491) ∧ Aside0 (w'.heap[gb494]? = some (.cells #[.int .i64 t490, (.slice Ao10 t491.length co10)] 25 (0, 0))) ∧ Aside0 (Below w.heap.size w w'))
          case atStart => exact ⟨(false), (0), (by first | rfl | (simp; done) | (simp [*]; done)), (by first | rfl | (simp; done) | (simp [*]; done)), H', ⟨Nat.le_refl _⟩, ⟨by (with_reducible repeat (first | apply Kd.R_alloc | apply Kd.R_drewN | apply Kd.R_drew)); exact HO_495001.out⟩, ⟨by (with_reducible repeat (first | refine blk_drewN ?_ _ | refine blk_drew ?_ | refine blk_alloc ?_ _)); exact BK494.out⟩, ⟨by repeat (first | (with_reducible first | exact HB.out | apply below_alloc | apply pw_below_drewN | apply below_drew1 | refine below_set ?_ GE494.out) | exact HB.out)⟩⟩
          case round =>
            clear H'
            try clear c1
            try clear c2
            try clear c2b0
            try clear c2b1
            try clear p2
            try clear c3
            try clear c8
            try clear c14
            try clear c14b0
            try clear c14b1
            try clear c14b2
            try clear c15
            try clear c15b0
            try clear c15b1
            try clear c16
            try clear c17
            try clear c17b0
            try clear c17b1
            try clear c17b2
            try clear hcz12_0
            try clear hcz12_1
            try clear hcz9_0
            try clear hcz9_1
            try clear hfz12_0
            try clear hfz12_1
            try clear hfz9_0
            try clear hfz9_1
            try clear p2
            obtain ⟨x8_2, x9_2, rfl, rfl, HA, HK2, HO_495001, BK494, HB⟩ := hrel
            cases gk with
            | zero => exact absurd HA.out (by simp [laws_FnEvens.l0])
            | succ k2 =>
              have H := HA.out
              clear HA
              simp only [laws_FnEvens.l0] at H
              by_cases c18 : x9_2 < t490
              · rw [if_pos c18] at H
                have c18b0 : decide (x9_2 < t490) = true := decide_eq_true c18
                clear c18
                have H' := Aside0.mk H
                clear H
                have hcz19_0 : wr.cell? ⟨gb494, 0, none⟩ = some (.int .i64 t490) := (blk_cell BK494.out 0).trans rfl
                have hcz19_1 : wr.cell? ⟨gb494, 1, none⟩ = some (.slice Ao10 t491.length co10) := (blk_cell BK494.out 1).trans rfl
                have hfz19_0 := blk_frozen BK494.out 0
                have hfz19_1 := blk_frozen BK494.out 1
                go_wp2
                go_loopg [10, 11] k2 (fun kq v10 v11 w' => ∃ (x10_3 : Int) (x11_3 : Int), v10 = .int .i64 x10_3 ∧ v11 = .int .i64 x11_3 ∧ Aside0 (laws_FnEvens.l1 kq t495 x8_2 x9_2 x10_3 x11_3 t490 t491 = some r) ∧ Aside0 (kq ≤ k2) ∧ Aside0 (Kd.R k37 37 w' w.heap.size (fun _ => True) (.slice Ao10 t491.length co10) t491) ∧ Aside0 (w'.heap[gb494]? = some (.cells #[.int .i64 t490, (.slice Ao10 t491.length co10)] 25 (0, 0))) ∧ Aside0 (Below w.heap.size w w'))
                case atStart => exact ⟨(0), (0), (by first | rfl | (simp; done) | (simp [*]; done)), (by first | rfl | (simp; done) | (simp [*]; done)), H', ⟨Nat.le_refl _⟩, ⟨by (with_reducible repeat (first | apply Kd.R_alloc | apply Kd.R_drewN | apply Kd.R_drew)); exact HO_495001.out⟩, ⟨by (with_reducible repeat (first | refine blk_drewN ?_ _ | refine blk_drew ?_ | refine blk_alloc ?_ _)); exact BK494.out⟩, ⟨by repeat (first | (with_reducible first | exact HB.out | apply below_alloc | apply pw_below_drewN | apply below_drew1 | refine below_set ?_ GE494.out) | exact HB.out)⟩⟩
                case round =>
                  clear H'
                  try clear c1
                  try clear c2
                  try clear c2b0
                  try clear c2b1
                  try clear p2
                  try clear c3
                  try clear c8
                  try clear c14
                  try clear c14b0
                  try clear c14b1
                  try clear c14b2
                  try clear c15
                  try clear c15b0
                  try clear c15b1
                  try clear c16
                  try clear c17
                  try clear c17b0
                  try clear c17b1
                  try clear c17b2
                  try clear c18
                  try clear c18b0
                  try clear hcz12_0
                  try clear hcz12_1
                  try clear hcz19_0
                  try clear hcz19_1
                  try clear hcz9_0
                  try clear hcz9_1
                  try clear hfz12_0
                  try clear hfz12_1
                  try clear hfz19_0
                  try clear hfz19_1
                  try clear hfz9_0
                  try clear hfz9_1
                  try clear p2
                  obtain ⟨x10_3, x11_3, rfl, rfl, HA, HK3, HO_495001, BK494, HB⟩ := hrel
                  cases gk with
                  | zero => exact absurd HA.out (by simp [laws_FnEvens.l1])
                  | succ k3 =>
                    have H := HA.out
                    clear HA
                    simp only [laws_FnEvens.l1] at H
                    by_cases c20 : x11_3 < (t491.length : Int)
                    · rw [if_pos c20] at H
                      have c20b0 : decide (x11_3 < (t491.length : Int)) = true := decide_eq_true c20
                      clear c20
                      by_cases c21 : 0 ≤ x11_3
                      · rw [if_pos c21] at H
                        have c21b0 : decide (0 ≤ x11_3) = true := decide_eq_true c21
                        clear c21
                        by_cases c22 : ((rd_T37 t491 x11_3).f0) = x9_2
                        · rw [if_pos c22] at H
                          have c22b0 : (((rd_T37 t491 x11_3).f0) == x9_2) = true := beq_iff_eq.mpr c22
                          have c22b1 : (((rd_T37 t491 x11_3).f0) != x9_2) = false := bne_eq_false_iff_eq.mpr c22
                          clear c22
                          have H' := Aside0.mk H
                          clear H
                          have hcz23_0 : wr.cell? ⟨gb494, 0, none⟩ = some (.int .i64 t490) := (blk_cell BK494.out 0).trans rfl
                          have hcz23_1 : wr.cell? ⟨gb494, 1, none⟩ = some (.slice Ao10 t491.length co10) := (blk_cell BK494.out 1).trans rfl
                          have hfz23_0 := blk_frozen BK494.out 0
                          have hfz23_1 := blk_frozen BK494.out 1
                          have p499 : 0 ≤ (x11_3 : Int) := of_decide_eq_true (by first | (with_reducible assumption) | assumption)
                          have q499 : x11_3 < (t491.length : Int) := of_decide_eq_true (by first | (with_reducible assumption) | assumption)
                          obtain ⟨ad499, e499, hx499_0, hx499_1⟩ := at_T37 (Kd.R_reads' HO_495001.out).2.2 x11_3 p499 q499
                          cases e499
                          replace p499 := eq_true p499
                          replace q499 := eq_true q499
                          go_wp2
                          go_roundg k3
                          case measure => have := HJ5.out; have := HK2.out; have := HK3.out; omega
                          case rel => exact ⟨(wrap64 (x10_3 + 1)), (wrap64 (x11_3 + 1)), (by first | rfl | (simp; done) | (simp [*]; done)), (by first | rfl | (simp; done) | (simp [*]; done)), H', ⟨by have := HJ5.out; have := HK2.out; have := HK3.out; omega⟩, ⟨by (with_reducible repeat (first | apply Kd.R_alloc | apply Kd.R_drewN | apply Kd.R_drew)); exact HO_495001.out⟩, ⟨by (with_reducible repeat (first | refine blk_drewN ?_ _ | refine blk_drew ?_ | refine blk_alloc ?_ _)); exact BK494.out⟩, ⟨by repeat (first | (with_reducible first | exact HB.out | apply below_alloc | apply pw_below_drewN | apply below_drew1 | refine below_set ?_ GE494.out) | exact HB.out)⟩⟩
                        · rw [if_neg c22] at H
                          have c22b0 : (((rd_T37 t491 x11_3).f0) == x9_2) = false := beq_eq_false_iff_ne.mpr c22
                          have c22b1 : (((rd_T37 t491 x11_3).f0) != x9_2) = true := bne_iff_ne.mpr c22
                          by_cases c24 : ((rd_T37 t491 x11_3).f1) = x9_2
                          · rw [if_pos c24] at H
                            have c24b0 : (((rd_T37 t491 x11_3).f1) == x9_2) = true := beq_iff_eq.mpr c24
                            have c24b1 : (((rd_T37 t491 x11_3).f1) != x9_2) = false := bne_eq_false_iff_eq.mpr c24
                            clear c24
                            have H' := Aside0.mk H
                            clear H
                            have hcz25_0 : wr.cell? ⟨gb494, 0, none⟩ = some (.int .i64 t490) := (blk_cell BK494.out 0).trans rfl
                            have hcz25_1 : wr.cell? ⟨gb494, 1, none⟩ = some (.slice Ao10 t491.length co10) := (blk_cell BK494.out 1).trans rfl
                            have hfz25_0 := blk_frozen BK494.out 0
                            have hfz25_1 := blk_frozen BK494.out 1
                            have p499 : 0 ≤ (x11_3 : Int) := of_decide_eq_true (by first | (with_reducible assumption) | assumption)
                            have q499 : x11_3 < (t491.length : Int) := of_decide_eq_true (by first | (with_reducible assumption) | assumption)
                            obtain ⟨ad499, e499, hx499_0, hx499_1⟩ := at_T37 (Kd.R_reads' HO_495001.out).2.2 x11_3 p499 q499
                            cases e499
                            replace p499 := eq_true p499
                            replace q499 := eq_true q499
                            have p500 : 0 ≤ (x11_3 : Int) := of_decide_eq_true (by first | (with_reducible assumption) | assumption)
                            have q500 : x11_3 < (t491.length : Int) := of_decide_eq_true (by first | (with_reducible assumption) | assumption)
                            obtain ⟨ad500, e500, hx500_0, hx500_1⟩ := at_T37 (Kd.R_reads' HO_495001.out).2.2 x11_3 p500 q500
                            obtain rfl : ad499 = ad500 := (by injection e500)
                            replace p500 := eq_true p500
                            replace q500 := eq_true q500
                            go_wp2
                            go_roundg k3
                            case measure => have := HJ5.out; have := HK2.out; have := HK3.out; omega
                            case rel => exact ⟨(wrap64 (x10_3 + 1)), (wrap64 (x11_3 + 1)), (by first | rfl | (simp; done) | (simp [*]; done)), (by first | rfl | (simp; done) | (simp [*]; done)), H', ⟨by have := HJ5.out; have := HK2.out; have := HK3.out; omega⟩, ⟨by (with_reducible repeat (first | apply Kd.R_alloc | apply Kd.R_drewN | apply Kd.R_drew)); exact HO_495001.out⟩, ⟨by (with_reducible repeat (first | refine blk_drewN ?_ _ | refine blk_drew ?_ | refine blk_alloc ?_ _)); exact BK494.out⟩, ⟨by repeat (first | (with_reducible first | exact HB.out | apply below_alloc | apply pw_below_drewN | apply below_drew1 | refine below_set ?_ GE494.out) | exact HB.out)⟩⟩
                          · rw [if_neg c24] at H
                            have c24b0 : (((rd_T37 t491 x11_3).f1) == x9_2) = false := beq_eq_false_iff_ne.mpr c24
                            have c24b1 : (((rd_T37 t491 x11_3).f1) != x9_2) = true := bne_iff_ne.mpr c24
                            have H' := Aside0.mk H
                            clear H
                            have hcz26_0 : wr.cell? ⟨gb494, 0, none⟩ = some (.int .i64 t490) := (blk_cell BK494.out 0).trans rfl
                            have hcz26_1 : wr.cell? ⟨gb494, 1, none⟩ = some (.slice Ao10 t491.length co10) := (blk_cell BK494.out 1).trans rfl
                            have hfz26_0 := blk_frozen BK494.out 0
                            have hfz26_1 := blk_frozen BK494.out 1
                            have p499 : 0 ≤ (x11_3 : Int) := of_decide_eq_true (by first | (with_reducible assumption) | assumption)
                            have q499 : x11_3 < (t491.length : Int) := of_decide_eq_true (by first | (with_reducible assumption) | assumption)
                            obtain ⟨ad499, e499, hx499_0, hx499_1⟩ := at_T37 (Kd.R_reads' HO_495001.out).2.2 x11_3 p499 q499
                            cases e499
                            replace p499 := eq_true p499
                            replace q499 := eq_true q499
                            have p500 : 0 ≤ (x11_3 : Int) := of_decide_eq_true (by first | (with_reducible assumption) | assumption)
                            have q500 : x11_3 < (t491.length : Int) := of_decide_eq_true (by first | (with_reducible assumption) | assumption)
                            obtain ⟨ad500, e500, hx500_0, hx500_1⟩ := at_T37 (Kd.R_reads' HO_495001.out).2.2 x11_3 p500 q500
                            obtain rfl : ad499 = ad500 := (by injection e500)
                            replace p500 := eq_true p500
                            replace q500 := eq_true q500
                            go_wp2
                            go_roundg k3
                            case measure => have := HJ5.out; have := HK2.out; have := HK3.out; omega
                            case rel => exact ⟨(x10_3), (wrap64 (x11_3 + 1)), (by first | rfl | (simp; done) | (simp [*]; done)), (by first | rfl | (simp; done) | (simp [*]; done)), H', ⟨by have := HJ5.out; have := HK2.out; have := HK3.out; omega⟩, ⟨by (with_reducible repeat (first | apply Kd.R_alloc | apply Kd.R_drewN | apply Kd.R_drew)); exact HO_495001.out⟩, ⟨by (with_reducible repeat (first | refine blk_drewN ?_ _ | refine blk_drew ?_ | refine blk_alloc ?_ _)); exact BK494.out⟩, ⟨by repeat (first | (with_reducible first | exact HB.out | apply below_alloc | apply pw_below_drewN | apply below_drew1 | refine below_set ?_ GE494.out) | exact HB.out)⟩⟩
                      · rw [if_neg c21] at H
                        exact absurd H (by simp)
                    · rw [if_neg c20] at H
                      have c20b0 : decide (x11_3 < (t491.length : Int)) = false := decide_eq_false c20
                      clear c20
                      by_cases c27 : x8_2 = true
                      · subst c27
                        have H1 : (laws_FnEvens.l0 k3 t495 true (wrap64 (x9_2 + 1)) t490 t491) = some r := by rw [if_pos rfl] at H; exact H
                        clear H
                        have H := H1
                        clear H1
                        have H' := Aside0.mk H
                        clear H
                        have hcz28_0 : wr.cell? ⟨gb494, 0, none⟩ = some (.int .i64 t490) := (blk_cell BK494.out 0).trans rfl
                        have hcz28_1 : wr.cell? ⟨gb494, 1, none⟩ = some (.slice Ao10 t491.length co10) := (blk_cell BK494.out 1).trans rfl
                        have hfz28_0 := blk_frozen BK494.out 0
                        have hfz28_1 := blk_frozen BK494.out 1
                        go_wp2
                        go_roundg k3
                        case measure => have := HJ5.out; have := HK2.out; have := HK3.out; omega
                        case rel => exact ⟨(true), (wrap64 (x9_2 + 1)), (by first | rfl | (simp; done) | (simp [*]; done)), (by first | rfl | (simp; done) | (simp [*]; done)), H', ⟨by have := HJ5.out; have := HK2.out; have := HK3.out; omega⟩, ⟨by (with_reducible repeat (first | apply Kd.R_alloc | apply Kd.R_drewN | apply Kd.R_drew)); exact HO_495001.out⟩, ⟨by (with_reducible repeat (first | refine blk_drewN ?_ _ | refine blk_drew ?_ | refine blk_alloc ?_ _)); exact BK494.out⟩, ⟨by repeat (first | (with_reducible first | exact HB.out | apply below_alloc | apply pw_below_drewN | apply below_drew1 | refine below_set ?_ GE494.out) | exact HB.out)⟩⟩
                      · replace c27 := Bool.eq_false_iff.mpr c27
                        subst c27
                        have H1 : (laws_FnEvens.l0 k3 t495 ((Int.tmod x10_3 2) == 1) (wrap64 (x9_2 + 1)) t490 t491) = some r := by rw [if_neg (show ¬ (false = true) by decide)] at H; exact H
                        clear H
                        have H := H1
                        clear H1
                        have H' := Aside0.mk H
                        clear H
                        have hcz29_0 : wr.cell? ⟨gb494, 0, none⟩ = some (.int .i64 t490) := (blk_cell BK494.out 0).trans rfl
                        have hcz29_1 : wr.cell? ⟨gb494, 1, none⟩ = some (.slice Ao10 t491.length co10) := (blk_cell BK494.out 1).trans rfl
                        have hfz29_0 := blk_frozen BK494.out 0
                        have hfz29_1 := blk_frozen BK494.out 1
                        go_wp2
                        go_roundg k3
                        case measure => have := HJ5.out; have := HK2.out; have := HK3.out; omega
                        case rel => exact ⟨(((Int.tmod x10_3 2) == 1)), (wrap64 (x9_2 + 1)), (by first | rfl | (simp; done) | (simp [*]; done)), (by first | rfl | (simp; done) | (simp [*]; done)), H', ⟨by have := HJ5.out; have := HK2.out; have := HK3.out; omega⟩, ⟨by (with_reducible repeat (first | apply Kd.R_alloc | apply Kd.R_drewN | apply Kd.R_drew)); exact HO_495001.out⟩, ⟨by (with_reducible repeat (first | refine blk_drewN ?_ _ | refine blk_drew ?_ | refine blk_alloc ?_ _)); exact BK494.out⟩, ⟨by repeat (first | (with_reducible first | exact HB.out | apply below_alloc | apply pw_below_drewN | apply below_drew1 | refine below_set ?_ GE494.out) | exact HB.out)⟩⟩
              · rw [if_neg c18] at H
                have c18b0 : decide (x9_2 < t490) = false := decide_eq_false c18
                clear c18
                by_cases c30 : ((t495 == 0) == x8_2) = true
                · rw [if_pos c30] at H
                  have c30b0 : ((t495 == 0) == x8_2) = true := c30
                  (try (have c30b1 : decide ((t495 == 0) = x8_2) = true := by simpa using c30))
                  (try (have c30b2 : ((t495 == 0) == x8_2) = true := by simpa using c30))
                  clear c30
                  by_cases c31 : (t491.length : Int) = 0
                  · rw [if_pos c31] at H
                    have c31b0 : ((t491.length : Int) == 0) = true := beq_iff_eq.mpr c31
                    have c31b1 : ((t491.length : Int) != 0) = false := bne_eq_false_iff_eq.mpr c31
                    clear c31
                    by_cases c32 : t495 = 1
                    · rw [if_pos c32] at H
                      have c32b0 : (t495 == 1) = true := beq_iff_eq.mpr c32
                      have c32b1 : (t495 != 1) = false := bne_eq_false_iff_eq.mpr c32
                      clear c32
                      obtain rfl := Option.some.inj H
                      have hcz33_0 : wr.cell? ⟨gb494, 0, none⟩ = some (.int .i64 t490) := (blk_cell BK494.out 0).trans rfl
                      have hcz33_1 : wr.cell? ⟨gb494, 1, none⟩ = some (.slice Ao10 t491.length co10) := (blk_cell BK494.out 1).trans rfl
                      have hfz33_0 := blk_frozen BK494.out 0
                      have hfz33_1 := blk_frozen BK494.out 1
                      go_wp2
                      go_ret
                      exact ⟨by first | rfl | (simp [errW_none, errW_some] <;> rfl) | (simp [*, errW_none, errW_some] <;> rfl), by repeat (first | (with_reducible first | exact HB.out | apply below_alloc | apply pw_below_drewN | apply below_drew1 | refine below_set ?_ GE494.out) | exact HB.out)⟩
                    · rw [if_neg c32] at H
                      have c32b0 : (t495 == 1) = false := beq_eq_false_iff_ne.mpr c32
                      have c32b1 : (t495 != 1) = true := bne_iff_ne.mpr c32
                      by_cases c34 : (t491.length : Int) > 0
                      · rw [if_pos c34] at H
                        have c34b0 : decide (0 < (t491.length : Int)) = true := decide_eq_true c34
                        have c34b1 : decide (0 < t491.length) = true := decide_eq_true (by omega)
                        clear c34
                        obtain rfl := Option.some.inj H
                        have hcz35_0 : wr.cell? ⟨gb494, 0, none⟩ = some (.int .i64 t490) := (blk_cell BK494.out 0).trans rfl
                        have hcz35_1 : wr.cell? ⟨gb494, 1, none⟩ = some (.slice Ao10 t491.length co10) := (blk_cell BK494.out 1).trans rfl
                        have hfz35_0 := blk_frozen BK494.out 0
                        have hfz35_1 := blk_frozen BK494.out 1
                        go_wp2
                        go_ret
                        exact ⟨by first | rfl | (simp [errW_none, errW_some] <;> rfl) | (simp [*, errW_none, errW_some] <;> rfl), by repeat (first | (with_reducible first | exact HB.out | apply below_alloc | apply pw_below_drewN | apply below_drew1 | refine below_set ?_ GE494.out) | exact HB.out)⟩
                      · rw [if_neg c34] at H
                        have c34b0 : decide (0 < (t491.length : Int)) = false := decide_eq_false c34
                        have c34b1 : decide (0 < t491.length) = false := decide_eq_false (by omega)
                        clear c34
                        obtain rfl := Option.some.inj H
                        have hcz36_0 : wr.cell? ⟨gb494, 0, none⟩ = some (.int .i64 t490) := (blk_cell BK494.out 0).trans rfl
                        have hcz36_1 : wr.cell? ⟨gb494, 1, none⟩ = some (.slice Ao10 t491.length co10) := (blk_cell BK494.out 1).trans rfl
                        have hfz36_0 := blk_frozen BK494.out 0
                        have hfz36_1 := blk_frozen BK494.out 1
                        go_wp2
                        go_ret
                        exact ⟨by first | rfl | (simp [errW_none, errW_some] <;> rfl) | (simp [*, errW_none, errW_some] <;> rfl), by repeat (first | (with_reducible first | exact HB.out | apply below_alloc | apply pw_below_drewN | apply below_drew1 | refine below_set ?_ GE494.out) | exact HB.out)⟩
                  · rw [if_neg c31] at H
                    have c31b0 : ((t491.length : Int) == 0) = false := beq_eq_false_iff_ne.mpr c31
                    have c31b1 : ((t491.length : Int) != 0) = true := bne_iff_ne.mpr c31
                    have c31b2 : ¬ (t491 = []) := fun h_ => c31 (by rw [h_]; rfl)
                    by_cases c37 : (t491.length : Int) > 0
                    · rw [if_pos c37] at H
                      have c37b0 : decide (0 < (t491.length : Int)) = true := decide_eq_true c37
                      have c37b1 : decide (0 < t491.length) = true := decide_eq_true (by omega)
                      clear c37
                      obtain rfl := Option.some.inj H
                      have hcz38_0 : wr.cell? ⟨gb494, 0, none⟩ = some (.int .i64 t490) := (blk_cell BK494.out 0).trans rfl
                      have hcz38_1 : wr.cell? ⟨gb494, 1, none⟩ = some (.slice Ao10 t491.length co10) := (blk_cell BK494.out 1).trans rfl
                      have hfz38_0 := blk_frozen BK494.out 0
                      have hfz38_1 := blk_frozen BK494.out 1
                      go_wp2
                      go_ret
                      exact ⟨by first | rfl | (simp [errW_none, errW_some] <;> rfl) | (simp [*, errW_none, errW_some] <;> rfl), by repeat (first | (with_reducible first | exact HB.out | apply below_alloc | apply pw_below_drewN | apply below_drew1 | refine below_set ?_ GE494.out) | exact HB.out)⟩
                    · rw [if_neg c37] at H
                      have c37b0 : decide (0 < (t491.length : Int)) = false := decide_eq_false c37
                      have c37b1 : decide (0 < t491.length) = false := decide_eq_false (by omega)
                      clear c37
                      obtain rfl := Option.some.inj H
                      have hcz39_0 : wr.cell? ⟨gb494, 0, none⟩ = some (.int .i64 t490) := (blk_cell BK494.out 0).trans rfl
                      have hcz39_1 : wr.cell? ⟨gb494, 1, none⟩ = some (.slice Ao10 t491.length co10) := (blk_cell BK494.out 1).trans rfl
                      have hfz39_0 := blk_frozen BK494.out 0
                      have hfz39_1 := blk_frozen BK494.out 1
                      go_wp2
                      go_ret
                      exact ⟨by first | rfl | (simp [errW_none, errW_some] <;> rfl) | (simp [*, errW_none, errW_some] <;> rfl), by repeat (first | (with_reducible first | exact HB.out | apply below_alloc | apply pw_below_drewN | apply below_drew1 | refine below_set ?_ GE494.out) | exact HB.out)⟩
                · rw [if_neg c30] at H
                  have c30b0 : ((t495 == 0) == x8_2) = false := by simpa using c30
                  (try (have c30b1 : decide ((t495 == 0) = x8_2) = false := by simpa using c30))
                  (try (have c30b2 : ((t495 == 0) == x8_2) = false := by simpa using c30))
                  (try (have c30b3 : ¬ ((t495 == 0) = x8_2) := by simpa using c30))
                  clear c30
                  obtain rfl := Option.some.inj H
                  have hcz40_0 : wr.cell? ⟨gb494, 0, none⟩ = some (.int .i64 t490) := (blk_cell BK494.out 0).trans rfl
                  have hcz40_1 : wr.cell? ⟨gb494, 1, none⟩ = some (.slice Ao10 t491.length co10) := (blk_cell BK494.out 1).trans rfl
                  have hfz40_0 := blk_frozen BK494.out 0
                  have hfz40_1 := blk_frozen BK494.out 1
                  go_wp2
                  go_ret
                  exact ⟨by first | rfl | (simp [errW_none, errW_some] <;> rfl) | (simp [*, errW_none, errW_some] <;> rfl), by repeat (first | (with_reducible first | exact HB.out | apply below_alloc | apply pw_below_drewN | apply below_drew1 | refine below_set ?_ GE494.out) | exact HB.out)⟩

/-- THE ONE PURE STATEMENT of laws_FnEvens: yours. -/
def laws_FnEvens.Pure : Prop := ∀ (l0 : List Int), l0.length ≤ maxLen → l0.length * 1 ≤ 140737488351232 → (∀ x ∈ l0, (Lit.int .u8 x).wf = true) → ∃ k, laws_FnEvens.f k l0 = some true
theorem laws_FnEvens.walk (P : laws_FnEvens.Pure) (a0 : Option Addr) (len0 cap0 : Nat) (z0 : List Int) (w : World) (w0 : (a0 = none ∧ len0 = 0 ∧ cap0 = 0 ∧ z0 = []) ∨ ∃ x, a0 = some x ∧ len0 ≤ cap0 ∧ cap0 ≤ maxLen ∧ z0.length = cap0 ∧ (∀ i, i < z0.length → w.cell? (x.add i) = some (.int .u8 (z0.getD i 0))) ∧ ∀ n ∈ z0, (Lit.int .u8 n).wf = true) (y0 : len0 * 1 ≤ 140737488351232) :
    Calls Try.prog 8 #[.slice a0 len0 cap0] w fun e w' => e = .returned (.bool true) ∧ Below w.heap.size w w' := by
  obtain ⟨l0, rfl, hr0, hm0, hw0, hc0⟩ := ReadsInt.ofRowC w0
  obtain ⟨k, h⟩ := P l0 hm0 y0 hw0
  refine (laws_FnEvens.calls k _ _ l0 true w (Kd.C_of_reads (d := (0 : Int)) (h1 := fun _ => rfl) hr0) hc0 h).mono ?_
  rintro e w' ⟨rfl, hd⟩
  exact ⟨rfl, hd⟩

end Go.Proofs.Ytjklkphhfkdkpaa.P
