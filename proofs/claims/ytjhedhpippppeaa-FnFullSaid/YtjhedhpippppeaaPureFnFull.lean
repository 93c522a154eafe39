/-
  FnFull answers true: a full direction has as many strong blocks as the graph has parts, and turned it is full.
-/
import Derived.Test.YtjhedhpippppeaaMFnFull
import Derived.Test.YtjhedhpippppeaaPx75
import Derived.Test.YtjhedhpippppeaaPx67
import Derived.Test.YtjhedhpippppeaaPx73
namespace Go.Proofs.Ytjhedhpippppeaa.Pure
open Go Go.RowKit Go.Proofs.YtjhedhpippppeaaW.PrintWords Go.Proofs.YtjhedhpippppeaaW.PrintLast Go.Proofs.YtjhedhpippppeaaW.PrintMore Go.Proofs.Ytjhedhpippppeaa.P Go.Proofs.Ytjhedhpippppeaa.Gw Go.Proofs.Ytjhedhpippppeaa.Lk
set_option linter.unusedVariables false
set_option linter.unusedSimpArgs false
theorem iBlocks_ev {m : Nat} {es : Ed} (hv : Valid m es) {b : Nat} (hb : b < 2 ^ es.length) : Ev (fun k => impl_StrongBlocks.f k (m : Int) (toS es) (b : Int)) (toI (blocksF m (dirs es b)), true) := by
  unfold impl_StrongBlocks.f
  refine Ev.bind (impl_wayIn (by rw [toS_length]; have := hv.len; omega)) ?_
  rw [wIn_iff hv, decide_eq_true hb]
  simp only [if_true]
  exact Ev.bind (blocksOf_ev hv hb) (Ev.now _)
theorem FnFull : laws_FnFull.Pure := by
  intro l0 hm hb hw
  apply Ev.rounds
  simp only [laws_FnFull.f]
  by_cases hbig : (l0.length : Int) > 1048576
  · simp only [if_pos hbig]; exact Ev.now true
  simp only [if_neg hbig]
  obtain ⟨m, xs, o, h1, h5, hl, he⟩ := strongDraw_ev (by omega) hw
  have hd : Ev (fun k => spec_DrawStrongFull.f k l0) ((m : Int), xs, o) := by unfold spec_DrawStrongFull.f; exact Ev.bind he (Ev.now _)
  refine Ev.bind hd ?_
  cases hin : wIn (m : Int) xs o with
  | false =>
    refine Ev.bind (impl_StrongFull_no hl hin) (Ev.bind (spec_StrongFull_no hl hin) ?_)
    simp only [bne_self_eq_false, Bool.false_eq_true, if_false, Bool.not_false]
    refine Ev.step (fun k => rfl) ?_
    simp only [laws_FnFull.j0, if_true, beq_self_eq_true]; exact Ev.now _
  | true =>
    obtain ⟨m', es, b, hmm, rfl, hv, rfl, hb'⟩ := wIn_valid hin
    obtain rfl : m = m' := by omega
    have hR := dirs_inR hv.inR b
    refine Ev.bind (impl_StrongFull_ev hv hb') (Ev.bind (spec_StrongFull_ev hv hb') ?_)
    cases hp : fullF m (dirs es b) with
    | false =>
      simp only [bne_self_eq_false, Bool.false_eq_true, if_false, Bool.not_false]
      refine Ev.step (fun k => rfl) ?_
      simp only [laws_FnFull.j0, if_true, beq_self_eq_true]; exact Ev.now _
    | true =>
      have e1 := full_blocks hv hp
      rw [(parts_chk hv).1] at e1
      have e2 : ((toI (blocksF m (dirs es b))).length : Int) = ((ufF m es : Nat) : Int) := by rw [toI_length, e1]
      have h4 := impl_StrongFull_ev hv (b := tn es.length b) tn_lt
      rw [dirs_tn es b hb', full_rev h5 hR hp] at h4
      simp only [bne_self_eq_false, Bool.false_eq_true, if_false, Bool.not_true]
      refine Ev.step (fun k => rfl) ?_
      simp only [laws_FnFull.j0, Bool.false_eq_true, if_false]
      refine Ev.bind (iBlocks_ev hv hb') (Ev.bind (implWayParts_ev hv) (Ev.bind (wTurned_ev hv hb') ?_))
      simp only [if_true, if_pos e2]
      exact Ev.bind h4 (Ev.now _)
end Go.Proofs.Ytjhedhpippppeaa.Pure
