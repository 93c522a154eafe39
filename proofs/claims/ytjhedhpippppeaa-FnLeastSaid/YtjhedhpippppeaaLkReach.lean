/-
  The program's reachOf: the closure of a node.
-/
import Derived.Test.YtjhedhpippppeaaLkDirs
import Derived.Test.YtjhedhpippppeaaPx31
namespace Go.Proofs.Ytjhedhpippppeaa.Lk
open Go Go.RowKit Go.Proofs.YtjhedhpippppeaaW.PrintWords Go.Proofs.YtjhedhpippppeaaW.PrintLast Go.Proofs.YtjhedhpippppeaaW.PrintMore Go.Proofs.Ytjhedhpippppeaa.P Go.Proofs.Ytjhedhpippppeaa.Gw
set_option linter.unusedVariables false
set_option linter.unusedSimpArgs false
theorem reach_l1 {rows : List Nat} (hr : ∀ r ∈ rows, r < 32) (hl : rows.length ≤ 5) {s r : Nat} (hs : s < 32) : ∀ d u : Nat, u + d = rows.length → ∀ mm : Nat, mm < 32 →
    Ev (fun k => if ((stepL (rows.drop u) u s mm : Nat) : Int) = (s : Int) then some (s : Int) else impl_reachOf.l0 k (toI rows) ((stepL (rows.drop u) u s mm : Nat) : Int)) (r : Int) →
    Ev (fun k => impl_reachOf.l1 k (toI rows) (s : Int) (mm : Int) (toI rows) (rows.length : Int) (u : Int)) (r : Int) := by
  intro d
  induction d with
  | zero =>
    intro u hu mm hm h
    rw [List.drop_eq_nil_of_le (by omega)] at h
    refine Ev.step (fun k => ?_) h
    simp only [impl_reachOf.l1]
    rw [if_neg (by omega)]; rfl
  | succ d ih =>
    intro u hu mm hm h
    have hul : u < rows.length := by omega
    rw [List.drop_eq_getElem_cons hul, stepL] at h
    have hru := hr _ (List.getElem_mem hul)
    have hlt : (bif s.testBit u then mm ||| rows[u] else mm) < 32 := by
      cases s.testBit u
      · exact hm
      · exact Nat.or_lt_two_pow (n := 5) hm hru
    have hk := ih (u + 1) (by omega) _ hlt h
    refine Ev.step (fun k => ?_) hk
    simp only [impl_reachOf.l1]
    have hrd : rd (toI rows) (u : Int) = ((rows[u] : Nat) : Int) := by rw [rd_toI, List.getD_eq_getElem?_getD, List.getElem?_eq_getElem hul]; rfl
    rw [if_pos (by omega), if_pos (by omega), if_pos (by rw [toI_length]; omega), wrap_id (by omega) (by omega), hrd]
    cases ht : s.testBit u with
    | true => rw [if_pos ((bit_one (by omega) (by omega)).mpr ht), or_nat (by omega) (by omega)]; simp
    | false => rw [if_neg (by rw [bit_one (by omega) (by omega), ht]; simp)]; simp
theorem reach_l0 {rows : List Nat} (hr : ∀ r ∈ rows, r < 32) (hl : rows.length ≤ 5) : ∀ j s : Nat, s < 32 → 6 ≤ pc5 s + j →
    ∃ t : Nat, t < 32 ∧ Ev (fun k => impl_reachOf.l0 k (toI rows) (s : Int)) (t : Int) ∧ Gw.step rows t = t ∧ Gw.Sub s t ∧ ∀ c, Gw.step rows c = c → Gw.Sub s c → Gw.Sub t c := by
  intro j
  induction j with
  | zero => intro s hs hp; have := pc5_le s hs; omega
  | succ j ih =>
    intro s hs hp
    have h0 : stepL (rows.drop 0) 0 s s = Gw.step rows s := rfl
    by_cases e : Gw.step rows s = s
    · refine ⟨s, hs, ?_, e, Gw.Sub.refl s, fun c _ h => h⟩
      refine Ev.step (fun k => rfl) ?_
      simp only [impl_reachOf.l0, toI_length]
      exact reach_l1 hr hl hs rows.length 0 (by omega) s hs (by rw [h0, e]; simpa using Ev.now _)
    · have hlt := step_lt hr hs
      have hpc := pc5_lt s hs _ hlt (sub_step rows s).and (fun h => e h.symm)
      obtain ⟨t, t0, t1, t2, t3, t4⟩ := ih (Gw.step rows s) hlt (by omega)
      refine ⟨t, t0, ?_, t2, (sub_step rows s).trans t3, fun c hc hsc => t4 c hc ?_⟩
      · refine Ev.step (fun k => rfl) ?_
        simp only [impl_reachOf.l0, toI_length]
        refine reach_l1 hr hl hs rows.length 0 (by omega) s hs ?_
        rw [h0]
        simp only [if_neg (show ¬ ((Gw.step rows s : Nat) : Int) = (s : Int) by omega)]
        exact t1
      · have := step_mono rows hsc; rw [hc] at this; exact this
theorem reachOf_ev {m : Nat} (hm : m ≤ 5) {ds : Ed} (hd : InR m ds) {v : Nat} (hv : v < m) :
    Ev (fun k => impl_reachOf.f k (toI (rowsOf m ds)) (v : Int)) ((close (rowsOf m ds) (2 ^ v) : Nat) : Int) := by
  have hr : ∀ r ∈ rowsOf m ds, r < 32 := fun r h => pow5 hm (rowsOf_lt hd r h)
  have hs : 2 ^ v < 32 := pow5 hm (Nat.pow_lt_pow_right (by omega) hv)
  have hp : pc5 (2 ^ v) = 1 := pc5_pow v (by omega)
  obtain ⟨t, t0, t1, t2, t3, t4⟩ := reach_l0 hr (by rw [rowsOf_length]; exact hm) 5 (2 ^ v) hs (by omega)
  have : t = close (rowsOf m ds) (2 ^ v) :=
    Gw.Sub.antisymm (t4 _ (close_fix hr hs (by omega)) (sub_close _ _)) (close_sub t3 t2)
  subst this
  refine Ev.congr (fun k => ?_) t1
  unfold impl_reachOf.f
  rw [if_pos (by omega), shl_nat (by omega)]
end Go.Proofs.Ytjhedhpippppeaa.Lk
