/-
  FnPush answers true: a pushed source is a sink, and acyclic is what was so.
-/
import Derived.Test.YtjhedhpippppeaaMFnPush
import Derived.Test.YtjhedhpippppeaaPx57
import Derived.Test.YtjhedhpippppeaaPx50
import Derived.Test.YtjhedhpippppeaaPx56
namespace Go.Proofs.Ytjhedhpippppeaa.Pure
open Go Go.RowKit Go.Proofs.YtjhedhpippppeaaW.PrintWords Go.Proofs.YtjhedhpippppeaaW.PrintLast Go.Proofs.YtjhedhpippppeaaW.PrintMore Go.Proofs.Ytjhedhpippppeaa.P Go.Proofs.Ytjhedhpippppeaa.Gw Go.Proofs.Ytjhedhpippppeaa.Lk
set_option linter.unusedVariables false
set_option linter.unusedSimpArgs false
theorem iSinks_ev {m : Nat} {es : Ed} (hv : Valid m es) {b : Nat} (hb : b < 2 ^ es.length) : Ev (fun k => impl_WaySinks.f k (m : Int) (toS es) (b : Int)) (((sinksF (rowsOf m (dirs es b)) : Nat) : Int), true) := by
  unfold impl_WaySinks.f
  refine Ev.bind (impl_wayIn (by rw [toS_length]; have := hv.len; omega)) ?_
  rw [wIn_iff hv, decide_eq_true hb]
  simp only [if_true]
  exact Ev.bind (sinksOf_ev hv hb) (Ev.now _)
theorem pushDraw_l (o : Int) (n : Int) (ys : List S33) {s : Nat} (hs : s < 2 ^ 62) {t : Nat} (ht : t ≤ 60) (hb : s.testBit t = true) : ∀ d i : Nat, i + d = t → ∃ v : Int, Ev (fun k => spec_DrawPlainPush.l0 k o (i : Int) (s : Int) n ys) (n, ys, o, v) := by
  intro d
  induction d with
  | zero =>
    intro i hi
    obtain rfl : i = t := by omega
    refine ⟨(i : Int), Ev.step (f := fun _ => some (n, ys, o, (i : Int))) (fun k => ?_) (Ev.now _)⟩
    simp only [spec_DrawPlainPush.l0]
    have hne : ¬ (Go.bits .and .i64 (shr .i64 (s : Int) (i : Int)) 1 = 0) := by rw [bit_zero hs (by omega), hb]; simp
    rw [if_pos (by omega), if_neg hne]
  | succ d ih =>
    intro i hi
    obtain ⟨v, hk⟩ := ih (i + 1) (by omega)
    have hw1 : wrap64 ((i : Int) + 1) = ((i + 1 : Nat) : Int) := by rw [wrap_id (by omega) (by omega)]; simp
    by_cases hbit : Go.bits .and .i64 (shr .i64 (s : Int) (i : Int)) 1 = 0
    · refine ⟨v, Ev.step (fun k => ?_) hk⟩
      simp only [spec_DrawPlainPush.l0]
      rw [if_pos (Int.natCast_nonneg _), if_pos hbit, hw1]
    · refine ⟨(i : Int), Ev.step (f := fun _ => some (n, ys, o, (i : Int))) (fun k => ?_) (Ev.now _)⟩
      simp only [spec_DrawPlainPush.l0]
      rw [if_pos (Int.natCast_nonneg _), if_neg hbit]
theorem pushDraw_ev {l : List Int} (hl : l.length ≤ 1048576) (hb : ∀ x ∈ l, (Lit.int .u8 x).wf = true) : ∃ (m : Nat) (xs : List S33) (o v : Int), 1 ≤ m ∧ m ≤ 5 ∧ xs.length < 2 ^ 62 ∧ Ev (fun k => spec_DrawPlainPush.f k l) ((m : Int), xs, o, v) := by
  obtain ⟨m, xs, o, v, h1, h5, hx, he⟩ := node_ev hl hb
  cases hin : wIn (m : Int) xs o with
  | false =>
    refine ⟨m, xs, o, v, h1, h5, hx, ?_⟩
    unfold spec_DrawPlainPush.f
    refine Ev.bind he (Ev.bind (refSources_no hx hin) ?_)
    simp only [Bool.false_eq_true, if_false]
    refine Ev.step (fun k => by simp only [spec_DrawPlainPush.j0]; rfl) ?_
    simp only [Bool.false_eq_true, if_false]
    exact Ev.now _
  | true =>
    obtain ⟨m', es, b, hmm, rfl, hv, rfl, hb'⟩ := wIn_valid hin
    obtain rfl : m = m' := by omega
    have hs := pow5 h5 (sinksF_lt m (rev (dirs es b)))
    by_cases hc : (((src m (dirs es b) : Nat) : Int) > 0) ∧ ((l.length : Int) % 4 > 0)
    · obtain ⟨t, ht⟩ := exists_bit (show src m (dirs es b) ≠ 0 by omega)
      have ht5 := bit_lt (sinksF_lt m (rev (dirs es b))) ht
      obtain ⟨v', hk⟩ := pushDraw_l (b : Int) (m : Int) (toS es) (show src m (dirs es b) < 2 ^ 62 by unfold src; omega) (show t ≤ 60 by omega) ht t 0 (by omega)
      refine ⟨m, toS es, (b : Int), v', h1, h5, hx, ?_⟩
      unfold spec_DrawPlainPush.f
      refine Ev.bind he (Ev.bind (refSources_ev hv hb') ?_)
      simp only [if_true, if_pos hc.1, decide_eq_true hc.2]
      refine Ev.step (fun k => by simp only [spec_DrawPlainPush.j0]; rfl) ?_
      simp only [if_true]
      exact hk
    · refine ⟨m, toS es, (b : Int), v, h1, h5, hx, ?_⟩
      unfold spec_DrawPlainPush.f
      refine Ev.bind he (Ev.bind (refSources_ev hv hb') ?_)
      simp only [if_true]
      by_cases h0 : ((src m (dirs es b) : Nat) : Int) > 0
      · have h2 : ¬ ((l.length : Int) % 4 > 0) := fun h => hc ⟨h0, h⟩
        simp only [if_pos h0, decide_eq_false h2]
        refine Ev.step (fun k => by simp only [spec_DrawPlainPush.j0]; rfl) ?_
        simp only [Bool.false_eq_true, if_false]
        exact Ev.now _
      · simp only [if_neg h0]
        refine Ev.step (fun k => by simp only [spec_DrawPlainPush.j0]; rfl) ?_
        simp only [Bool.false_eq_true, if_false]
        exact Ev.now _
theorem FnPush : laws_FnPush.Pure := by
  intro l0 hm hb hw
  apply Ev.rounds
  simp only [laws_FnPush.f]
  by_cases hbig : (l0.length : Int) > 1048576
  · simp only [if_pos hbig]; exact Ev.now true
  simp only [if_neg hbig]
  obtain ⟨m, xs, o, v, h1, h5, hl, hd⟩ := pushDraw_ev (by omega) hw
  refine Ev.bind hd ?_
  have no : Ev (fun k => impl_PlainPush.f k (m : Int) xs o v) (0, false) → Ev (fun k => spec_PlainPush.f k (m : Int) xs o v) (0, false) → Ev (fun k => (impl_PlainPush.f k (m : Int) xs o v).bind fun bt500 => ((spec_PlainPush.f k (m : Int) xs o v).bind fun bt502 => (if (bt500.2 != bt502.2) = true then (laws_FnPush.j0 k o v bt500.1 bt500.2 bt502.1 bt502.2 true (m : Int) xs) else (if bt500.1 = bt502.1 then (laws_FnPush.j0 k o v bt500.1 bt500.2 bt502.1 bt502.2 (!bt500.2) (m : Int) xs) else (laws_FnPush.j0 k o v bt500.1 bt500.2 bt502.1 bt502.2 true (m : Int) xs))))) true := by
    intro a1 a2
    refine Ev.bind a1 (Ev.bind a2 ?_)
    simp only [bne_self_eq_false, Bool.false_eq_true, if_false, if_true, Bool.not_false]
    refine Ev.step (fun k => by simp only [laws_FnPush.j0]; rfl) ?_
    simp only [if_true, beq_self_eq_true]
    exact Ev.now _
  cases hin : wIn (m : Int) xs o with
  | false => exact no (impl_PlainPush_no hl (.inl hin)) (spec_PlainPush_no hl (.inl hin))
  | true =>
    obtain ⟨m', es, b, hmm, rfl, hv, rfl, hb'⟩ := wIn_valid hin
    obtain rfl : m = m' := by omega
    by_cases h : 0 ≤ v ∧ v < (m : Int)
    · obtain ⟨u, rfl⟩ := Int.eq_ofNat_of_zero_le h.1
      have hum : u < m := by omega
      have a1 := impl_PlainPush_ev hv hb' hum
      have a2 := spec_PlainPush_ev hv hb' hum
      unfold pushR at a1 a2
      cases ht : (src m (dirs es b)).testBit u with
      | false => rw [ht] at a1 a2; exact no a1 a2
      | true =>
        rw [ht] at a1 a2
        have hs := (src_iff (dirs_inR hv.inR b) hum).mp ht
        have hlt := pushE_lt u (l := es.length) es 0 b (by omega) hb'
        have k1 := push_sink hv hum hs
        have k2 := push_plain hv hum hs
        have p1 := impl_PlainIn_ev hv hlt
        have p2 := impl_PlainIn_ev hv hb'
        have hsm := pow5 h5 (sinksF_lt m (dirs es (pushE u es 0 b)))
        have hk := (bit_one (s := sinksF (rowsOf m (dirs es (pushE u es 0 b)))) (by omega) (show u ≤ 64 by omega)).mpr k1
        refine Ev.bind a1 (Ev.bind a2 ?_)
        simp only [cond_true, bne_self_eq_false, Bool.false_eq_true, if_false, if_true, Bool.not_true]
        refine Ev.step (fun k => by simp only [laws_FnPush.j0]; rfl) ?_
        simp only [Bool.false_eq_true, if_false]
        refine Ev.bind (iSinks_ev hv hlt) ?_
        simp only [if_true, if_pos h.1, if_pos hk]
        refine Ev.bind p1 (Ev.bind p2 ?_)
        rw [k2]; simp only [beq_self_eq_true]; exact Ev.now _
    · exact no (impl_PlainPush_no hl (.inr h)) (spec_PlainPush_no hl (.inr h))
end Go.Proofs.Ytjhedhpippppeaa.Pure
