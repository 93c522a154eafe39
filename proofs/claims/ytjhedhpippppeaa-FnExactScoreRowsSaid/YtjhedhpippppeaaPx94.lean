/-
  impl.ScoreRows: how many rows are met; the map is told by the list of the rows.
-/
import Derived.Test.YtjhedhpippppeaaCloMap
import Derived.Test.YtjhedhpippppeaaPx11
import Derived.Test.YtjhedhpippppeaaPx96
namespace Go.Proofs.Ytjhedhpippppeaa.P
open Go Go.RowKit Go.Maps Go.Proofs.YtjhedhpippppeaaW.PrintWords Go.Proofs.YtjhedhpippppeaaW.PrintLast Go.Proofs.YtjhedhpippppeaaW.PrintMore
set_option linter.unusedVariables false
set_option linter.unusedSimpArgs false
def impl_ScoreRows.l0 : Nat → Int → Int → List (List Int) → Int → List (S33) → Option (Int × Bool)
  | 0, _, _, _, _, _ => none
  | k + 1, n, x, acc, m, es => if x < n then ((impl_outOf.f k m es x).bind fun r => (if r.length ≤ 5 then (if (pad5 r).all fits = true then (if acc.length < 17592186044416 then (impl_ScoreRows.l0 k n (wrap64 (x + 1)) (addR acc (pad5 r)) m es) else none) else none) else none)) else some ((acc.length : Int), true)
def impl_ScoreRows.f (k : Nat) (a0_0 : Int) (l0_1 : List (S33)) : Option (Int × Bool) := (impl_WayGraph.f k a0_0 l0_1).bind fun t => (if t = true then (impl_ScoreRows.l0 k (shl .i64 1 (l0_1.length : Int)) 0 [] a0_0 l0_1) else some (0, false))
theorem impl_ScoreRows.mono_l : ∀ (k : Nat) (n x : Int) (acc : List (List Int)) (m : Int) (es : List (S33)), LeO (impl_ScoreRows.l0 k n x acc m es) (impl_ScoreRows.l0 (k + 1) n x acc m es)
  | 0, _, _, _, _, _ => LeO.none _
  | k + 1, n, x, acc, m, es => by
      rw [impl_ScoreRows.l0, impl_ScoreRows.l0]
      exact LeO.ite (LeO.bind (impl_outOf.mono _ _ _ _) (fun r => LeO.ite (LeO.ite (LeO.ite (impl_ScoreRows.mono_l k _ _ _ _ _) (LeO.none _)) (LeO.none _)) (LeO.none _))) (LeO.refl _)
theorem impl_ScoreRows.mono : ∀ a0 a1 k, LeO (impl_ScoreRows.f k a0 a1) (impl_ScoreRows.f (k + 1) a0 a1) := by
  intro a0 a1 k
  unfold impl_ScoreRows.f
  exact LeO.bind (impl_WayGraph.mono _ _ _) (fun t => LeO.ite (impl_ScoreRows.mono_l k _ _ _ _ _) (LeO.refl _))
set_option maxHeartbeats 8000000 in
set_option maxRecDepth 100000 in
theorem impl_ScoreRows.calls (k : Nat) (a0_0 : Int) (A0_1 : Option Addr) (c0_1 : Nat) (l0_1 : List (S33)) (r1 : Int) (r2 : Bool) (w : World) (hr0_1 : Kd.C k33 w A0_1 l0_1.length l0_1) (hc0_1 : l0_1.length ≤ c0_1) (h : impl_ScoreRows.f k a0_0 l0_1 = some (r1, r2)) :
    Calls Try.prog 45 #[.agg #[.int .i64 a0_0, .slice A0_1 l0_1.length c0_1]] w fun e w' => e = .returned (.tuple #[.int .i64 r1, .bool r2]) ∧ Below w.heap.size w w' := by
  have hu25 := Try.underlying25
  have HR0_1 := Aside0.mk hr0_1
  have HC0_1 := Aside0.mk hc0_1
  clear hr0_1 hc0_1
  have HB := Aside0.mk (Below.refl w.heap.size w)
  have H := Option.bind_eq_some_iff.mp h
  clear h
  obtain ⟨t, A20, H⟩ := H
  have A2 := Aside0.mk A20
  clear A20
  cases t with
  | true =>
    rw [if_pos rfl] at H
    obtain ⟨ji4, hji4⟩ : ∃ j_ : Int, (shl .i64 1 (l0_1.length : Int)) = j_ := ⟨_, rfl⟩
    rw [hji4] at H
    have H' := Aside0.mk H
    clear H
    have hji4_ : (IntKind.i64.wrap (1 * 2 ^ min (l0_1.length : Int).toNat 64)) = ji4 := hji4
    have hji4z : (l0_1.length : Int) ≤ 64 → (IntKind.i64.wrap (1 * 2 ^ (l0_1.length : Int).toNat)) = ji4 := shl_small hji4
    have hji4p : (IntKind.i64.wrap (1 * 2 ^ min l0_1.length 64)) = ji4 := hji4_
    have hji4q : (l0_1.length : Int) ≤ 64 → (IntKind.i64.wrap (1 * 2 ^ l0_1.length)) = ji4 := hji4z
    have hji4r : (IntKind.i64.wrap (2 ^ min l0_1.length 64)) = ji4 := by have h_ := hji4p; rw [Int.one_mul] at h_; exact h_
    have hji4s : (l0_1.length : Int) ≤ 64 → (IntKind.i64.wrap (2 ^ l0_1.length)) = ji4 := fun hle_ => by have h_ := hji4q hle_; rw [Int.one_mul] at h_; exact h_
    have hji4u : (IntKind.i64.wrap (2 ^ min (l0_1.length : Int).toNat 64)) = ji4 := by have h_ := hji4_; rw [Int.one_mul] at h_; exact h_
    have hji4v : (l0_1.length : Int) ≤ 64 → (IntKind.i64.wrap (2 ^ (l0_1.length : Int).toNat)) = ji4 := fun hle_ => by have h_ := hji4z hle_; rw [Int.one_mul] at h_; exact h_
    have hji4y : (wrap64 (1 * 2 ^ min (l0_1.length : Int).toNat 64)) = ji4 := (i64_w _).symm.trans hji4_
    have hji4x : (l0_1.length : Int) ≤ 64 → (wrap64 (1 * 2 ^ (l0_1.length : Int).toNat)) = ji4 := fun h_ => (i64_w _).symm.trans (hji4z h_)
    have hmm := @run_makeMap Try.prog
    go_enter Try.func45, Try.ntmps45
    go_wp2_with (first | ((with_reducible refine gate_dst (N := 1) rfl ?_); refine box_event ?hg (N := 1) ?hd (cs := #[.int .i64 a0_0, .slice A0_1 l0_1.length c0_1]) (t := 25) ?hr ?_; (case hd => rfl); (case hg => rfl); (case hr => first | (go_simp; done) | (go_simp; rfl)); intro gb hg w5 hbox hb; have n0_ := Aside0.mk (below_step HB.out hb); have GE := Aside0.mk (show w.heap.size ≤ gb by rw [hg]; exact below_size HB.out); clear HB; have HB := n0_; clear n0_; have BK := Aside0.mk hbox; clear hbox hg hb; have hcz6_0 : w5.cell? ⟨gb, 0, none⟩ = some (.int .i64 a0_0) := (blk_cell BK.out 0).trans rfl; have hcz6_1 : w5.cell? ⟨gb, 1, none⟩ = some (.slice A0_1 l0_1.length c0_1) := (blk_cell BK.out 1).trans rfl; have hfz6_0 := blk_frozen BK.out 0; have hfz6_1 := blk_frozen BK.out 1) | (go_at_call 51; refine (impl_WayGraph.calls k a0_0 A0_1 c0_1 l0_1 true _ (Kd.C_below HR0_1.out HB.out) HC0_1.out A2.out).mono ?_; rintro e w7 ⟨rfl, hb⟩; have n0_ := Aside0.mk (below_step HB.out hb); have n1_ := Aside0.mk (blk_below BK.out hb); clear HB BK hb; have HB := n0_; have BK := n1_; clear n0_ n1_; have hcz8_0 : w7.cell? ⟨gb, 0, none⟩ = some (.int .i64 a0_0) := (blk_cell BK.out 0).trans rfl; have hcz8_1 : w7.cell? ⟨gb, 1, none⟩ = some (.slice A0_1 l0_1.length c0_1) := (blk_cell BK.out 1).trans rfl; have hfz8_0 := blk_frozen BK.out 0; have hfz8_1 := blk_frozen BK.out 1) | ((with_reducible refine gate_dst (N := 10) rfl ?_); refine map_event (P := Try.prog) (k := 73) (plainElem (H := Unit) Try.prog 4) rfl rfl ?_; intro gm hg w9 hmap hb; have n0_ := Aside0.mk (below_step HB.out hb); have GM := Aside0.mk (show w.heap.size ≤ gm by rw [hg]; exact below_size HB.out); have n1_ := Aside0.mk (blk_below BK.out hb); clear HB BK; have HB := n0_; have BK := n1_; clear n0_ n1_; have HM := Aside0.mk hmap; clear hmap hg hb; have hcz9_0 : w9.cell? ⟨gb, 0, none⟩ = some (.int .i64 a0_0) := (blk_cell BK.out 0).trans rfl; have hcz9_1 : w9.cell? ⟨gb, 1, none⟩ = some (.slice A0_1 l0_1.length c0_1) := (blk_cell BK.out 1).trans rfl; have hfz9_0 := blk_frozen BK.out 0; have hfz9_1 := blk_frozen BK.out 1))
    go_loopg [15] k (fun kq v15 w' => ∃ (x15 : Int) (acc : List (List Int)) (D : DataW Unit), v15 = .int .i64 x15 ∧ Aside0 (impl_ScoreRows.l0 kq ji4 x15 acc a0_0 l0_1 = some (r1, r2)) ∧ Aside0 (kq ≤ k) ∧ Aside0 (Met D acc) ∧ Aside0 (w'.ownsMap Try.prog 73 (plainElem (H := Unit) Try.prog 4) gm acc.length D) ∧ Aside0 (w'.heap[gb]? = some (.cells #[.int .i64 a0_0, .slice A0_1 l0_1.length c0_1] 25 (0, 0))) ∧ Aside0 (Below w.heap.size w w'))
    case atStart => exact ⟨0, [], .map [], rfl, H', ⟨Nat.le_refl _⟩, ⟨met_nil⟩, HM, BK, HB⟩
    case round =>
      clear H' HB BK HM
      try clear hcz6_0
      try clear hcz6_1
      try clear hfz6_0
      try clear hfz6_1
      try clear hcz8_0
      try clear hcz8_1
      try clear hfz8_0
      try clear hfz8_1
      try clear hcz9_0
      try clear hcz9_1
      try clear hfz9_0
      try clear hfz9_1
      obtain ⟨x15, acc, D, rfl, HA, HK1, HMet, HM, BK, HB⟩ := hrel
      cases gk with
      | zero => exact absurd HA.out (by simp [impl_ScoreRows.l0])
      | succ k1 =>
        have H := HA.out
        clear HA
        simp only [impl_ScoreRows.l0] at H
        by_cases c9 : x15 < ji4
        · rw [if_pos c9] at H
          have c9b0 : decide (x15 < ji4) = true := decide_eq_true c9
          clear c9
          replace H := Option.bind_eq_some_iff.mp H
          obtain ⟨r, A30, H⟩ := H
          have A3 := Aside0.mk A30
          clear A30
          by_cases h5 : r.length ≤ 5
          · rw [if_pos h5] at H
            by_cases hf : (pad5 r).all fits = true
            · rw [if_pos hf] at H
              by_cases hacc : acc.length < 17592186044416
              · rw [if_pos hacc] at H
                have H' := Aside0.mk H
                clear H
                have h5_ := Aside0.mk h5
                have hf_ := Aside0.mk hf
                have hacc_ := Aside0.mk hacc
                clear h5 hf hacc
                go_wp2_with (first | ((with_reducible refine gate_dst (N := 18) rfl ?_); refine build_event rfl rfl ?_) | ((with_reducible refine gate_dst (N := 6) rfl ?_); refine box_event ?hg (N := 6) ?hd (cs := zero5) (t := 73) ?hr ?_; (case hd => rfl); (case hg => rfl); (case hr => first | (go_simp; done) | (go_simp; rfl)); intro gr hg w5 hbox hb; have n0_ := Aside0.mk (below_step HB.out hb); have GR := Aside0.mk (show w.heap.size ≤ gr by rw [hg]; exact below_size HB.out); have n1_ := Aside0.mk (blk_below BK.out hb); have n2_ := Aside0.mk (ownsMap_blk HM.out (fun o ho => blk_below ho hb)); have NG := Aside0.mk (show gr ≠ gb by rw [hg]; exact Ne.symm (Nat.ne_of_lt (blk_lt BK.out))); have NM := Aside0.mk (show gr ≠ gm by rw [hg]; exact Ne.symm (Nat.ne_of_lt HM.out.lt)); clear HB BK HM; have HB := n0_; have BK := n1_; have HM := n2_; clear n0_ n1_ n2_; have BR := Aside0.mk hbox; clear hbox hg hb) | ((with_reducible refine gate_store (t := 73) (p := 6) (v := .tmp 18) rfl ?_); refine store73_event rfl rfl rfl (g := gr) rfl rfl BR.out ?_; intro w7 hbr hgr; have n0_ := Aside0.mk (HB.out.grown hgr (below_size HB.out) (fun j hj => by cases hj; exact GR.out)); have n1_ := Aside0.mk (blk_grown BK.out hgr (fun e => NG.out (Option.some.inj e).symm)); have n2_ := Aside0.mk (HM.out.kept hgr (fun e => NM.out (Option.some.inj e).symm)); have n3_ := Aside0.mk hbr; clear HB BK HM BR; have HB := n0_; have BK := n1_; have HM := n2_; have BR := n3_; clear n0_ n1_ n2_ n3_ hbr hgr))
                have NGM := Aside0.mk (ne_map BK.out HM.out)
                simp only [Act.put, List.setIfInBounds_toArray, List.set_cons_zero, List.set_cons_succ]
                have n0_ := Aside0.mk (blk_drew BK.out)
                have n1_ := Aside0.mk (below_drew1 HB.out)
                have n2_ := Aside0.mk HM.out.drew
                have n3_ := Aside0.mk (blk_drew BR.out)
                clear BK HB HM BR
                have BK := n0_
                have HB := n1_
                have HM := n2_
                have BR := n3_
                clear n0_ n1_ n2_ n3_
                refine start_ (n := 5) (S := fun w' => w'.cell? ⟨gb, 0, none⟩ = some (.int .i64 a0_0) ∧ w'.cell? ⟨gb, 1, none⟩ = some (.slice A0_1 l0_1.length c0_1)) (ds := []) #[false, false, false, false, false] (by kernel_rfl) rfl rfl ⟨(blk_cell BK.out 0).trans rfl, (blk_cell BK.out 1).trans rfl⟩ (fun hHeld => ?_)
                generalize w7.drew = w8 at BK HB HM BR hHeld ⊢
                refine pure_ (i := 0) (N := some 19) (v := ?_) (a' := ?_) #[true, false, false, false, false] rfl rfl (by kernel_rfl) (fun _ _ _ h => h) (Or.inl ⟨by rfl, ?_⟩) ?_ ?_
                rotate_left
                · intro w'
                  go_simp
                  with_reducible rfl
                rotate_left
                · simp only [Act.put, List.setIfInBounds_toArray, List.set_cons_zero, List.set_cons_succ, i64_w, i32_w]
                  rfl
                refine pure_ (i := 2) (N := some 21) (v := ?_) (a' := ?_) #[true, false, true, false, false] rfl rfl (by kernel_rfl) (fun _ _ _ h => h) (Or.inl ⟨by rfl, ?_⟩) ?_ ?_
                rotate_left
                · intro w'
                  go_simp
                  with_reducible rfl
                rotate_left
                · simp only [Act.put, List.setIfInBounds_toArray, List.set_cons_zero, List.set_cons_succ, i64_w, i32_w]
                  rfl
                refine take_ (i := 1) (N := some 20) (v := ?_) (a' := ?_) #[true, true, true, false, false] rfl rfl (by kernel_rfl) (fun _ _ _ h => h) (Or.inl ⟨by rfl, ?_⟩) hHeld ?_ ?_
                rotate_left
                · rintro w' ⟨s0, s1⟩
                  go_simp
                  with_reducible rfl
                rotate_left
                · simp only [Act.put, List.setIfInBounds_toArray, List.set_cons_zero, List.set_cons_succ, i64_w, i32_w]
                  rfl
                refine one_ (i := 3) (N := some 22) #[true, true, true, true, false] rfl rfl (by kernel_rfl) (by decide) (fun K hK => ?_)
                refine goes_ Try.func81 (by kernel_rfl) rfl #[.agg #[.int .i64 a0_0, .slice A0_1 l0_1.length c0_1], .int .i64 x15] (by rfl) rfl rfl (by (try simp only [List.map_toArray, List.map_cons, List.map_nil]); first | done | rfl) ?_
                with_reducible refine (impl_outOf.calls k1 a0_0 _ _ l0_1 x15 r _ ?side1 ?side2 A3.out).mono ?_
                (case side1 => exact (Kd.C_below HR0_1.out HB.out))
                (case side2 => exact HC0_1.out)
                rintro e w9 ⟨v9, rfl, ho0, hb⟩
                obtain ⟨Ao, co, eo⟩ := Kd.R_slice ho0
                subst eo
                refine ⟨_, rfl, ?_⟩
                have HCr := Aside0.mk (Kd.R_reads' ho0).2.2
                have n0_ := Aside0.mk (blk_below BK.out hb)
                have n1_ := Aside0.mk (below_step HB.out hb)
                have n2_ := Aside0.mk (ownsMap_blk HM.out (fun o ho => blk_below ho hb))
                have n3_ := Aside0.mk (blk_below BR.out hb)
                clear BK HB HM BR
                have BK := n0_
                have HB := n1_
                have HM := n2_
                have BR := n3_
                clear n0_ n1_ n2_ n3_
                clear ho0 hb
                refine hK.out _ _ ⟨(blk_cell BK.out 0).trans rfl, (blk_cell BK.out 1).trans rfl⟩ (fun hHeld => ?_)
                clear hK K
                refine norm_ (a' := ?_) ?_ ?_
                rotate_left
                · show Act.put _ (some 22) _ = _
                  simp only [Act.put, List.setIfInBounds_toArray, List.set_cons_zero, List.set_cons_succ, i64_w, i32_w]
                  rfl
                refine one_ (i := 4) (N := some 23) #[true, true, true, true, true] rfl rfl (by kernel_rfl) (by decide) (fun K hK => ?_)
                refine copy_step (by rfl) rfl (g := gr) (r := r) (c := co) (A := Ao) rfl rfl BR.out HCr.out h5_.out ?_
                intro w10 hbr hgr
                have n0_ := Aside0.mk (blk_grown BK.out hgr (fun e => NG.out (Option.some.inj e).symm))
                have n1_ := Aside0.mk (HB.out.grown hgr (below_size HB.out) (fun j hj => by cases hj; exact GR.out))
                have n2_ := Aside0.mk (HM.out.kept hgr (fun e => NM.out (Option.some.inj e).symm))
                have n3_ := Aside0.mk hbr
                clear BK HB HM BR HCr
                have BK := n0_
                have HB := n1_
                have HM := n2_
                have BR := n3_
                clear n0_ n1_ n2_ n3_
                clear hbr hgr
                refine hK.out _ _ ⟨(blk_cell BK.out 0).trans rfl, (blk_cell BK.out 1).trans rfl⟩ (fun hHeld => ?_)
                clear hK K
                refine norm_ (a' := ?_) ?_ ?_
                rotate_left
                · show Act.put _ (some 23) _ = _
                  simp only [Act.put, List.setIfInBounds_toArray, List.set_cons_zero, List.set_cons_succ, i64_w, i32_w]
                  rfl
                refine done_ (by kernel_rfl) ?_
                obtain ⟨kl, hkey⟩ := key_ok (pad5_len h5_.out) hf_.out
                have hlen5 : (encs (Value.int .i64) (pad5 r)).toArray.size = 5 := by rw [List.size_toArray, encs_length]; exact pad5_len h5_.out
                have hroom : acc.length < maxLen := by have := hacc_.out; unfold maxLen; omega
                go_wp2_with (first | ((with_reducible refine gate_dst (N := 25) rfl ?_); refine load_event rfl rfl (g := gr) rfl BR.out hlen5 ?_) | (at_mapUpdate; refine wpList_mapUpdate_own _ rfl _ _ _ 72 rfl 73 4 law73 Try.underlying72 (plainElem (H := Unit) Try.prog 4) gm acc.length D rfl HM.out hroom (rowV (pad5 r)) _ kl rfl rfl hkey _ [] (plainElem_bool Try.underlying4 true) ?_; intro w11 hown1 hgrow1))
                have hmet := HMet.out.put (HM.out.tidy law73) hkey (.lit (.bool true))
                have htight := ownsMap_tight hown1
                rw [hmet.size] at htight
                have hHB := HB.out.grown hgrow1 (below_size HB.out) (fun j hj => by cases hj; exact GM.out)
                have hBK := blk_grown BK.out hgrow1 (fun e => NGM.out (Option.some.inj e))
                go_roundg k1
                case measure => have := HK1.out; omega
                case rel => exact ⟨_, _, _, rfl, H', ⟨by have := HK1.out; omega⟩, ⟨hmet⟩, ⟨htight⟩, ⟨hBK⟩, ⟨hHB⟩⟩
              · rw [if_neg hacc] at H; exact absurd H (by simp)
            · rw [if_neg hf] at H; exact absurd H (by simp)
          · rw [if_neg h5] at H; exact absurd H (by simp)
        · rw [if_neg c9] at H
          have c9b0 : decide (x15 < ji4) = false := decide_eq_false c9
          clear c9
          simp only [Option.some.injEq, Prod.mk.injEq] at H
          obtain ⟨rfl, rfl⟩ := H
          have hsz := HMet.out.size
          go_wp2_with (first | (at_len; refine wpList_len_own _ rfl _ 72 rfl 73 4 Try.underlying72 _ gm _ _ rfl HM.out ?_; rw [hsz]))
          go_ret2
          exact ⟨rfl, HB.out⟩
  | false =>
    rw [if_neg (by decide)] at H
    simp only [Option.some.injEq, Prod.mk.injEq] at H
    obtain ⟨rfl, rfl⟩ := H
    go_enter Try.func45, Try.ntmps45
    go_wp2_with (first | ((with_reducible refine gate_dst (N := 1) rfl ?_); refine box_event ?hg (N := 1) ?hd (cs := #[.int .i64 a0_0, .slice A0_1 l0_1.length c0_1]) (t := 25) ?hr ?_; (case hd => rfl); (case hg => rfl); (case hr => first | (go_simp; done) | (go_simp; rfl)); intro gb hg w5 hbox hb; have n0_ := Aside0.mk (below_step HB.out hb); clear HB; have HB := n0_; clear n0_; have BK := Aside0.mk hbox; clear hbox hg hb; have hcz6_0 : w5.cell? ⟨gb, 0, none⟩ = some (.int .i64 a0_0) := (blk_cell BK.out 0).trans rfl; have hcz6_1 : w5.cell? ⟨gb, 1, none⟩ = some (.slice A0_1 l0_1.length c0_1) := (blk_cell BK.out 1).trans rfl; have hfz6_0 := blk_frozen BK.out 0; have hfz6_1 := blk_frozen BK.out 1) | (go_at_call 51; refine (impl_WayGraph.calls k a0_0 A0_1 c0_1 l0_1 false _ (Kd.C_below HR0_1.out HB.out) HC0_1.out A2.out).mono ?_; rintro e w7 ⟨rfl, hb⟩; have n0_ := Aside0.mk (below_step HB.out hb); clear HB hb; have HB := n0_; clear n0_))
    go_ret2
    exact ⟨rfl, HB.out⟩
end Go.Proofs.Ytjhedhpippppeaa.P
