/-
  The reference's l1Out: degrees.
-/
import Derived.Test.YtjhedhpippppeaaLkDirs
import Derived.Test.YtjhedhpippppeaaPx20
import Derived.Test.YtjhedhpippppeaaPx47
namespace Go.Proofs.Ytjhedhpippppeaa.Lk
open Go Go.RowKit Go.Proofs.YtjhedhpippppeaaW.PrintWords Go.Proofs.YtjhedhpippppeaaW.PrintLast Go.Proofs.YtjhedhpippppeaaW.PrintMore Go.Proofs.Ytjhedhpippppeaa.P Go.Proofs.Ytjhedhpippppeaa.Gw
set_option linter.unusedVariables false
set_option linter.unusedSimpArgs false
theorem refEndsO_eq {es : Ed} {b i : Nat} (hb : b < 2 ^ 62) (hl : es.length ≤ 60) (hi : i < es.length) (n : Int) :
    spec_l1Ends.f n (toS es) (b : Int) (i : Int) = some ((((dirs es b).getD i (0, 0)).1 : Int), (((dirs es b).getD i (0, 0)).2 : Int)) := by
  unfold spec_l1Ends.f
  rw [if_pos (by omega), if_pos (by rw [toS_length]; omega), rd_toS, dirs_getD hi]
  cases ht : b.testBit i with
  | true => rw [if_pos ((bit_one hb (by omega)).mpr ht)]; rfl
  | false => rw [if_neg (by rw [bit_one hb (by omega), ht]; simp)]; rfl
theorem outs_le {m : Nat} {ds : Ed} (hd : InR m ds) (u : Nat) : (outsOf m ds).getD u 0 ≤ ds.length := by
  rw [outsOf_get hd]; exact List.countP_le_length
theorem refOut_l {m : Nat} {es : Ed} (hv : Valid m es) {b : Nat} (hb : b < 2 ^ es.length) : ∀ d i : Nat, i + d = es.length →
    Ev (fun k => spec_l1Out.l0 k (b : Int) (toI (outsOf m ((dirs es b).take i))) (i : Int) (m : Int) (toS es)) (toI (outsOf m (dirs es b))) := by
  have hD := dirs_length es b
  have hR := dirs_inR hv.inR b
  have h10 := hv.len
  have hp := pow_le hv.len
  have h5 := hv.le
  intro d
  induction d with
  | zero =>
    intro i hi
    refine Ev.step (f := fun _ => some (toI (outsOf m (dirs es b)))) (fun k => ?_) (Ev.now _)
    simp only [spec_l1Out.l0]
    rw [if_neg (by rw [toS_length]; omega), List.take_of_length_le (by omega)]
  | succ d ih =>
    intro i hi
    refine Ev.step (fun k => ?_) (ih (i + 1) (by omega))
    have he := hR _ (getD_mem (ds := dirs es b) (i := i) (by omega))
    have hle := outs_le (take_inR hR i) ((dirs es b).getD i (0, 0)).1
    have hlt : ((dirs es b).take i).length ≤ 10 := by rw [List.length_take]; omega
    simp only [spec_l1Out.l0]
    rw [if_pos (by rw [toS_length]; omega), refEndsO_eq (by omega) (by omega) (by omega)]
    simp only [Option.bind_some]
    rw [if_pos (by omega), if_pos (by rw [toI_length, outsOf_length]; omega), rd_toI, wrap_id (x := _ + 1) (by omega) (by omega), wrap_id (by omega) (by omega), Int.toNat_natCast]
    rw [show (((outsOf m ((dirs es b).take i)).getD ((dirs es b).getD i (0, 0)).1 0 : Nat) : Int) + 1 = (((outsOf m ((dirs es b).take i)).getD ((dirs es b).getD i (0, 0)).1 0 + 1 : Nat) : Int) by simp, set_toI, take_snoc (by omega)]
    simp only [outsOf, List.foldl_append, List.foldl_cons, List.foldl_nil, addO]
    simp
theorem refOut_ev {m : Nat} {es : Ed} (hv : Valid m es) {b : Nat} (hb : b < 2 ^ es.length) :
    Ev (fun k => spec_l1Out.f k (m : Int) (toS es) (b : Int)) (toI (outsOf m (dirs es b))) := by
  refine Ev.congr (fun k => ?_) (refOut_l hv hb es.length 0 (by omega))
  have h5 := hv.le
  unfold spec_l1Out.f
  rw [if_pos (by omega), if_pos (by omega), Int.toNat_natCast, repl_toI]; rfl
end Go.Proofs.Ytjhedhpippppeaa.Lk
