/-
  What the exact laws do with lists that come back: they are held against each other, marked, and asked for their marks.
-/
import Derived.Test.YtjhedhpippppeaaLkX
import Derived.Test.YtjhedhpippppeaaPx88
import Derived.Test.YtjhedhpippppeaaPx87
import Derived.Test.YtjhedhpippppeaaPx89
import Derived.Test.YtjhedhpippppeaaPx90
import Derived.Test.YtjhedhpippppeaaPx86
namespace Go.Proofs.Ytjhedhpippppeaa.Lk
open Go Go.RowKit Go.Proofs.YtjhedhpippppeaaW.PrintWords Go.Proofs.YtjhedhpippppeaaW.PrintLast Go.Proofs.YtjhedhpippppeaaW.PrintMore Go.Proofs.Ytjhedhpippppeaa.P Go.Proofs.Ytjhedhpippppeaa.Gw
set_option linter.unusedVariables false
set_option linter.unusedSimpArgs false
theorem eqInt_ev {l : List Int} (h : l.length < 2 ^ 62) : Ev (fun k => laws_eqIntS.f k l l) true := by
  have key : ∀ (d i : Nat), i + d = l.length → Ev (fun k => laws_eqIntS.l0 k l l (i : Int)) true := by
    intro d
    induction d with
    | zero => intro i hi; exact Ev.step (f := fun _ => some true) (fun k => by simp only [laws_eqIntS.l0]; rw [if_neg (by omega)]) (Ev.now _)
    | succ d ih =>
      intro i hi
      have hw : wrap64 ((i : Int) + 1) = ((i + 1 : Nat) : Int) := by rw [wrap_id (by omega) (by omega)]; simp
      refine Ev.step (f := fun k => laws_eqIntS.l0 k l l ((i + 1 : Nat) : Int)) (fun k => ?_) (ih (i + 1) (by omega))
      simp only [laws_eqIntS.l0, if_true]
      rw [if_pos (by omega), if_pos (by omega), if_pos (by omega), hw]
  unfold laws_eqIntS.f
  simp only [if_true]
  exact key l.length 0 (by omega)
theorem markEdge_ev : ∀ (d i : Nat) (xs : List S33) (c : Nat), i + d = xs.length → i + d ≤ 1048576 → c + 2 * d ≤ 1000000000 →
    ∃ xs' : List S33, Ev (fun k => laws_markEdgeS.l0 k xs (c : Int) (i : Int)) (((c + 2 * d : Nat) : Int), xs') := by
  intro d
  induction d with
  | zero =>
    intro i xs c hi _ _
    exact ⟨xs, Ev.step (f := fun _ => some ((c : Int), xs)) (fun k => by simp only [laws_markEdgeS.l0]; rw [if_neg (by omega)]) (Ev.now _)⟩
  | succ d ih =>
    intro i xs c hi hm hc
    have hw : wrap64 ((i : Int) + 1) = ((i + 1 : Nat) : Int) := by rw [wrap_id (by omega) (by omega)]; simp
    have hw1 : wrap64 ((c : Int) + 1) = ((c + 1 : Nat) : Int) := by rw [wrap_id (by omega) (by omega)]; simp
    have hw2 : wrap64 (((c + 1 : Nat) : Int) + 1) = ((c + 2 : Nat) : Int) := by rw [wrap_id (by omega) (by omega)]; simp; omega
    obtain ⟨xs', h⟩ := ih (i + 1) ((xs.set i (⟨(c : Int), (rd_T33 xs (i : Int)).f1⟩ : S33)).set i (⟨(rd_T33 (xs.set i (⟨(c : Int), (rd_T33 xs (i : Int)).f1⟩ : S33)) (i : Int)).f0, ((c + 1 : Nat) : Int)⟩ : S33)) (c + 2) (by simp; omega) (by omega) (by omega)
    refine ⟨xs', ?_⟩
    rw [show c + 2 * (d + 1) = c + 2 + 2 * d by omega]
    refine Ev.step (fun k => ?_) h
    simp only [laws_markEdgeS.l0]
    rw [if_pos (by omega), if_pos (by omega)]
    simp only [Option.bind_some, hw, hw1, hw2, Int.toNat_natCast]
theorem markGraph_ev (n : Int) {xs : List S33} (h : xs.length ≤ 1048576) : ∃ (c : Nat) (xs' : List S33), Ev (fun k => laws_markGraph.f k n xs 1) ((c : Int), xs') := by
  obtain ⟨xs', h1⟩ := markEdge_ev xs.length 0 xs 1 (by omega) (by omega) (by omega)
  refine ⟨1 + 2 * xs.length, xs', ?_⟩
  unfold laws_markGraph.f
  have h2 : Ev (fun k => laws_markEdgeS.f k xs 1) (((1 + 2 * xs.length : Nat) : Int), xs') := by unfold laws_markEdgeS.f; exact h1
  exact Ev.bind h2 (Ev.now _)
/-- the marks -/
def mks (i : Nat) : List Int := (List.range i).map fun j : Nat => (j : Int) + 1
theorem mks_len (i : Nat) : (mks i).length = i := by simp [mks]
theorem mks_succ (i : Nat) : mks (i + 1) = mks i ++ [(i : Int) + 1] := by simp [mks, List.range_succ]
theorem mks_get {n i : Nat} (h : i < n) : rd (mks n) (i : Int) = (i : Int) + 1 := by
  unfold rd mks
  rw [Int.toNat_natCast, List.getD_eq_getElem?_getD, List.getElem?_map, List.getElem?_range h]; rfl
theorem markInt_l {l : List Int} (hl : l.length ≤ 1000000) : ∀ d i : Nat, i + d = l.length →
    Ev (fun k => laws_markIntS.l0 k (mks i ++ l.drop i) ((i + 1 : Nat) : Int) (i : Int)) (((l.length + 1 : Nat) : Int), mks l.length) := by
  intro d
  induction d with
  | zero =>
    intro i hi
    obtain rfl : i = l.length := by omega
    refine Ev.step (f := fun _ => some (((l.length + 1 : Nat) : Int), mks l.length)) (fun k => ?_) (Ev.now _)
    simp only [laws_markIntS.l0]
    rw [if_neg (by rw [List.length_append, mks_len, List.length_drop]; omega), List.drop_eq_nil_of_le (by omega), List.append_nil]
  | succ d ih =>
    intro i hi
    have hw : wrap64 ((i : Int) + 1) = ((i + 1 : Nat) : Int) := by rw [wrap_id (by omega) (by omega)]; simp
    have hw1 : wrap64 (((i + 1 : Nat) : Int) + 1) = ((i + 1 + 1 : Nat) : Int) := by rw [wrap_id (by omega) (by omega)]; simp
    have hset : (mks i ++ l.drop i).set i (((i + 1 : Nat) : Int)) = mks (i + 1) ++ l.drop (i + 1) := by
      rw [List.set_append_right i _ (by rw [mks_len]; omega), mks_len, Nat.sub_self, List.drop_eq_getElem_cons (show i < l.length by omega), List.set_cons_zero, mks_succ]; simp
    refine Ev.step (fun k => ?_) (ih (i + 1) (by omega))
    simp only [laws_markIntS.l0]
    rw [if_pos (by rw [List.length_append, mks_len, List.length_drop]; omega), if_pos (by omega), Int.toNat_natCast, hset, hw, hw1]
theorem markInt_ev {l : List Int} (hl : l.length ≤ 1000000) : Ev (fun k => laws_markIntS.f k l 1) (((l.length + 1 : Nat) : Int), mks l.length) := by
  have h := markInt_l hl l.length 0 (by omega)
  unfold laws_markIntS.f; exact h
theorem heldInt_ev {n : Nat} (hn : n ≤ 1000000) : Ev (fun k => laws_heldIntS.f k (mks n) 1) ((n + 1 : Nat) : Int) := by
  have key : ∀ d i : Nat, i + d = n → Ev (fun k => laws_heldIntS.l0 k (mks n) ((i + 1 : Nat) : Int) (i : Int)) ((n + 1 : Nat) : Int) := by
    intro d
    induction d with
    | zero =>
      intro i hi
      obtain rfl : i = n := by omega
      refine Ev.step (f := fun _ => some ((i + 1 : Nat) : Int)) (fun k => ?_) (Ev.now _)
      simp only [laws_heldIntS.l0]
      rw [if_neg (by rw [mks_len]; omega)]
    | succ d ih =>
      intro i hi
      have hw : wrap64 ((i : Int) + 1) = ((i + 1 : Nat) : Int) := by rw [wrap_id (by omega) (by omega)]; simp
      have hw1 : wrap64 (((i + 1 : Nat) : Int) + 1) = ((i + 1 + 1 : Nat) : Int) := by rw [wrap_id (by omega) (by omega)]; simp
      refine Ev.step (fun k => ?_) (ih (i + 1) (by omega))
      simp only [laws_heldIntS.l0]
      rw [if_pos (by rw [mks_len]; omega), if_pos (by omega), if_pos (by rw [mks_get (by omega)]; simp), hw, hw1]
  have h := key n 0 (by omega)
  unfold laws_heldIntS.f; exact h
end Go.Proofs.Ytjhedhpippppeaa.Lk
