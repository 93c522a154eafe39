/-
  What the exact laws do round their calls: the graph's size, its copy, and that the copy is still the same.
-/
import Derived.Test.YtjhedhpippppeaaLkG
import Derived.Test.YtjhedhpippppeaaPx77
import Derived.Test.YtjhedhpippppeaaPx80
import Derived.Test.YtjhedhpippppeaaPx83
namespace Go.Proofs.Ytjhedhpippppeaa.Lk
open Go Go.RowKit Go.Proofs.YtjhedhpippppeaaW.PrintWords Go.Proofs.YtjhedhpippppeaaW.PrintLast Go.Proofs.YtjhedhpippppeaaW.PrintMore Go.Proofs.Ytjhedhpippppeaa.P Go.Proofs.Ytjhedhpippppeaa.Gw
set_option linter.unusedVariables false
set_option linter.unusedSimpArgs false

def cv (xs : List S82) : List S33 := xs.map fun e => (⟨e.f0, e.f1⟩ : S33)
theorem cv_length (xs : List S82) : (cv xs).length = xs.length := by simp [cv]
theorem sz_big {n : Int} {xs : List S82} (h : 1048576 < xs.length) (hm : xs.length ≤ 9223372036854775807) : laws_szGraph.f n xs 1048576 = some (-1) := by
  unfold laws_szGraph.f laws_szEdgeS.f
  rw [wrap_id (by omega) (by omega), if_pos (by omega)]; rfl
theorem sz_small {n : Int} {xs : List S82} (h : xs.length ≤ 1048576) : laws_szGraph.f n xs 1048576 = some (1048576 - (xs.length : Int)) := by
  unfold laws_szGraph.f laws_szEdgeS.f
  rw [wrap_id (by omega) (by omega), if_neg (by omega)]
  simp only [Option.bind_some]
  rw [if_neg (by omega)]
theorem toEdgeS_l0 {xs : List S82} (h : xs.length ≤ 1048576) : ∀ (d i : Nat), i + d = xs.length →
    Ev (fun k => laws_toEdgeS.l0 k xs ((cv xs).take i ++ List.replicate d z33) (i : Int)) (cv xs) := by
  intro d
  induction d with
  | zero =>
    intro i hi
    refine Ev.step (f := fun _ => some (cv xs)) (fun k => ?_) (Ev.now _)
    simp only [laws_toEdgeS.l0]
    rw [if_neg (by omega), List.take_of_length_le (by rw [cv_length]; omega)]; simp
  | succ d ih =>
    intro i hi
    refine Ev.step (f := fun k => laws_toEdgeS.l0 k xs ((cv xs).take (i + 1) ++ List.replicate d z33) ((i + 1 : Nat) : Int)) (fun k => ?_) (ih (i + 1) (by omega))
    have hli : i < xs.length := by omega
    have hr : rd_T82 xs (i : Int) = xs[i] := by simp [rd_T82, List.getD_eq_getElem?_getD, List.getElem?_eq_getElem hli]
    have hset : ((cv xs).take i ++ List.replicate (d + 1) z33).set i (⟨(xs[i]).f0, (xs[i]).f1⟩ : S33) = (cv xs).take (i + 1) ++ List.replicate d z33 := by
      have ht : ((cv xs).take i).length = i := by rw [List.length_take, cv_length]; omega
      rw [List.set_append_right i _ (by omega), ht, Nat.sub_self, List.replicate_succ, List.set_cons_zero, List.take_succ_eq_append_getElem (by rw [cv_length]; exact hli)]
      simp [cv]
    simp only [laws_toEdgeS.l0]
    rw [if_pos (by omega), if_pos (by omega), hr]
    simp only [laws_toEdge.f, Option.bind_some]
    rw [if_pos (by simp only [List.length_append, List.length_take, cv_length, List.length_replicate]; omega), Int.toNat_natCast, hset, wrap_id (by omega) (by omega)]
    simp
theorem toGraph_ev {n : Int} {xs : List S82} (h : xs.length ≤ 1048576) : Ev (fun k => laws_toGraph.f k n xs) (n, cv xs) := by
  have key : Ev (fun k => laws_toEdgeS.f k xs) (cv xs) := by
    refine Ev.congr (f := fun k => laws_toEdgeS.l0 k xs ((cv xs).take 0 ++ List.replicate xs.length z33) ((0 : Nat) : Int)) (fun k => ?_) (toEdgeS_l0 h xs.length 0 (by omega))
    unfold laws_toEdgeS.f
    rw [if_pos (by omega), if_pos (by omega)]; simp
  unfold laws_toGraph.f
  exact Ev.bind key (Ev.now _)
theorem eqEdgeS_l0 {xs : List S33} (h : xs.length < 2 ^ 62) : ∀ (d i : Nat), i + d = xs.length → Ev (fun k => laws_eqEdgeS.l0 k xs xs (i : Int)) true := by
  intro d
  induction d with
  | zero => intro i hi; exact Ev.step (f := fun _ => some true) (fun k => by simp only [laws_eqEdgeS.l0]; rw [if_neg (by omega)]) (Ev.now _)
  | succ d ih =>
    intro i hi
    refine Ev.step (f := fun k => laws_eqEdgeS.l0 k xs xs ((i + 1 : Nat) : Int)) (fun k => ?_) (ih (i + 1) (by omega))
    simp only [laws_eqEdgeS.l0]
    rw [if_pos (by omega), if_pos (by omega), if_pos (by omega)]
    simp only [laws_eqEdge.f, if_true, Option.bind_some]
    rw [wrap_id (by omega) (by omega)]; simp
theorem eqGraph_ev {n : Int} {xs : List S33} (h : xs.length < 2 ^ 62) : Ev (fun k => laws_eqGraph.f k n xs n xs) true := by
  have key : Ev (fun k => laws_eqEdgeS.f k xs xs) true := by
    refine Ev.congr (f := fun k => laws_eqEdgeS.l0 k xs xs ((0 : Nat) : Int)) (fun k => ?_) (eqEdgeS_l0 h xs.length 0 (by omega))
    unfold laws_eqEdgeS.f; rw [if_pos rfl]; rfl
  refine Ev.congr (f := fun k => (laws_eqEdgeS.f k xs xs).bind fun t => if t = true then some true else some false) (fun k => ?_) (Ev.bind key (by simpa using Ev.now true))
  unfold laws_eqGraph.f; rw [if_pos rfl]
theorem big_or (xs : List S82) (hm : xs.length ≤ 9223372036854775807) : (∀ n : Int, laws_szGraph.f n xs 1048576 = some (-1)) ∨ xs.length ≤ 1048576 := by
  by_cases h : 1048576 < xs.length
  · exact .inl fun n => sz_big h hm
  · exact .inr (by omega)
theorem sz_neg {xs : List S82} (h : xs.length ≤ 1048576) : ¬ ((1048576 - (xs.length : Int)) < 0) := by omega
end Go.Proofs.Ytjhedhpippppeaa.Lk
