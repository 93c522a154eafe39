/-
  What the laws' drawing of a graph, a direction that is often plain, and a node comes to.
-/
import Derived.Test.YtjhedhpippppeaaLkDrawW
import Derived.Test.YtjhedhpippppeaaLkIn
import Derived.Test.YtjhedhpippppeaaPx8
namespace Go.Proofs.Ytjhedhpippppeaa.Lk
open Go Go.RowKit Go.Proofs.YtjhedhpippppeaaW.PrintWords Go.Proofs.YtjhedhpippppeaaW.PrintLast Go.Proofs.YtjhedhpippppeaaW.PrintMore Go.Proofs.Ytjhedhpippppeaa.P Go.Proofs.Ytjhedhpippppeaa.Gw
set_option linter.unusedVariables false
set_option linter.unusedSimpArgs false
theorem plain_l1 {m : Nat} {es : Ed} (hv : Valid m es) {pl : List Int} (hp : pl.length = m) (b : List Int) (p : Int) : ∀ d i : Nat, i + d = es.length → ∀ o : Int,
    ∃ o' : Int, Ev (fun k => spec_l91Plain.l1 k o pl (i : Int) b p (m : Int) (toS es)) (o', p) := by
  have h10 := hv.len
  intro d
  induction d with
  | zero =>
    intro i hi o
    refine ⟨o, Ev.step (f := fun _ => some (o, p)) (fun k => ?_) (Ev.now _)⟩
    simp only [spec_l91Plain.l1]; rw [if_neg (by rw [toS_length]; omega)]
  | succ d ih =>
    intro i hi o
    have hil : i < es.length := by omega
    have he : (es.getD i (0, 0)).1 < m ∧ (es.getD i (0, 0)).2 < m := by
      have hm : es.getD i (0, 0) ∈ es := by rw [List.getD_eq_getElem?_getD, List.getElem?_eq_getElem hil]; exact List.getElem_mem hil
      exact hv.inR _ hm
    have hw : wrap64 ((i : Int) + 1) = ((i + 1 : Nat) : Int) := by rw [wrap_id (by omega) (by omega)]; simp
    have hrd := rd_toS es i
    by_cases hc : rd pl ((es.getD i (0, 0)).1 : Int) > rd pl ((es.getD i (0, 0)).2 : Int)
    · obtain ⟨o', h⟩ := ih (i + 1) (by omega) (Go.bits .or .i64 o (shl .i64 1 (i : Int)))
      refine ⟨o', Ev.step (fun k => ?_) h⟩
      simp only [spec_l91Plain.l1]
      rw [if_pos (by rw [toS_length]; omega), if_pos (by omega), hrd, if_pos (by simp only; omega), if_pos (by simp only; omega), if_pos (by simp only; omega), if_pos (by simp only; omega), if_pos hc, hw]
    · obtain ⟨o', h⟩ := ih (i + 1) (by omega) o
      refine ⟨o', Ev.step (fun k => ?_) h⟩
      simp only [spec_l91Plain.l1]
      rw [if_pos (by rw [toS_length]; omega), if_pos (by omega), hrd, if_pos (by simp only; omega), if_pos (by simp only; omega), if_pos (by simp only; omega), if_pos (by simp only; omega), if_neg hc, hw]
theorem plain_l0 {b : List Int} (h : Cod b) {m : Nat} {es : Ed} (hv : Valid m es) : ∀ d i : Nat, i + d = m → ∀ (pl : List Int) (p : Nat), pl.length = i → p + d ≤ 10000 →
    ∃ (o' : Int) (p' : Nat), p' ≤ p + d ∧ Ev (fun k => spec_l91Plain.l0 k pl (i : Int) b (p : Int) (m : Int) (toS es)) (o', (p' : Int)) := by
  have h5 := hv.le
  intro d
  induction d with
  | zero =>
    intro i hi pl p hpl hp
    obtain ⟨o', h1⟩ := plain_l1 hv (pl := pl) (by omega) b (p : Int) es.length 0 (by omega) 0
    refine ⟨o', p, by omega, Ev.step (fun k => ?_) h1⟩
    simp only [spec_l91Plain.l0]; rw [if_neg (by omega)]; rfl
  | succ d ih =>
    intro i hi pl p hpl hp
    obtain ⟨r, _, _, hr⟩ := pick_ev h p (by omega) 8
    obtain ⟨o', p', h1, h2⟩ := ih (i + 1) (by omega) (pl ++ [r]) (p + 1) (by simp; omega) (by omega)
    have hw : wrap64 ((i : Int) + 1) = ((i + 1 : Nat) : Int) := by rw [wrap_id (by omega) (by omega)]; simp
    refine ⟨o', p', by omega, Ev.step (fun k => rfl) ?_⟩
    simp only [spec_l91Plain.l0, if_pos (show (i : Int) < (m : Int) by omega)]
    refine Ev.bind hr ?_
    simp only [if_pos (show pl.length < 17592186044416 by omega), hw]
    exact h2
theorem plainW_ev {b : List Int} (h : Cod b) {m : Nat} {xs : List S33} {p : Nat} (hd : Drawn m xs p) : ∃ (o : Int) (p' : Nat), p' ≤ 5000 ∧ Ev (fun k => spec_l91Plain.f k b (p : Int) (m : Int) xs) (o, (p' : Int)) := by
  obtain ⟨o, p1, h1, h2⟩ := way_ev h hd
  have hlen := hd.len
  have hin := spec_wayIn (n := (m : Int)) (o := o) (xs := xs) (by omega)
  cases hw : wIn (m : Int) xs o with
  | false =>
    refine ⟨o, p1, by omega, ?_⟩
    unfold spec_l91Plain.f
    refine Ev.bind h2 (Ev.bind hin ?_)
    simp only [hw, Bool.false_eq_true, if_false]
    refine Ev.step (f := fun _ => some (o, (p1 : Int))) (fun k => ?_) (Ev.now _)
    simp only [spec_l91Plain.j0]; rw [if_pos trivial]
  | true =>
    obtain ⟨m', es, c, hmm, rfl, hv, rfl, hb⟩ := wIn_valid hw
    obtain rfl : m = m' := by omega
    obtain ⟨r, _, _, hr⟩ := pick_ev h p1 (by omega) 5
    by_cases h0 : r = 0
    · refine ⟨(c : Int), p1 + 1, by omega, ?_⟩
      unfold spec_l91Plain.f
      refine Ev.bind h2 (Ev.bind hin ?_)
      simp only [hw, if_true]
      refine Ev.bind hr ?_
      refine Ev.step (f := fun _ => some ((c : Int), ((p1 + 1 : Nat) : Int))) (fun k => ?_) (Ev.now _)
      simp only [spec_l91Plain.j0]; rw [if_pos (by simpa using h0)]
    · obtain ⟨o', p', h3, h4⟩ := plain_l0 h hv m 0 (by omega) [] (p1 + 1) rfl (by have := hv.le; omega)
      refine ⟨o', p', by have := hv.le; omega, ?_⟩
      unfold spec_l91Plain.f
      refine Ev.bind h2 (Ev.bind hin ?_)
      simp only [hw, if_true]
      refine Ev.bind hr ?_
      refine Ev.step (fun k => ?_) h4
      simp only [spec_l91Plain.j0]; rw [if_neg (by simpa using h0)]; rfl
end Go.Proofs.Ytjhedhpippppeaa.Lk
