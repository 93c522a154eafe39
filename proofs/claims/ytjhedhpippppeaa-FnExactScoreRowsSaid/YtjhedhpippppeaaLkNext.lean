/-
  The program's ends and nextOf: the rows of next nodes.
-/
import Derived.Test.YtjhedhpippppeaaLkDirs
import Derived.Test.YtjhedhpippppeaaPx14
import Derived.Test.YtjhedhpippppeaaPx15
namespace Go.Proofs.Ytjhedhpippppeaa.Lk
open Go Go.RowKit Go.Proofs.YtjhedhpippppeaaW.PrintWords Go.Proofs.YtjhedhpippppeaaW.PrintLast Go.Proofs.YtjhedhpippppeaaW.PrintMore Go.Proofs.Ytjhedhpippppeaa.P Go.Proofs.Ytjhedhpippppeaa.Gw
set_option linter.unusedVariables false
set_option linter.unusedSimpArgs false
theorem ends_eq {es : Ed} {b i : Nat} (hb : b < 2 ^ 62) (hl : es.length ≤ 60) (hi : i < es.length) (n : Int) :
    impl_ends.f n (toS es) (b : Int) (i : Int) = some ((((dirs es b).getD i (0, 0)).1 : Int), (((dirs es b).getD i (0, 0)).2 : Int)) := by
  unfold impl_ends.f
  rw [if_pos (by omega), if_pos (by rw [toS_length]; omega), rd_toS, dirs_getD hi]
  cases ht : b.testBit i with
  | true => rw [if_pos ((bit_one hb (by omega)).mpr ht)]; rfl
  | false => rw [if_neg (by rw [bit_one hb (by omega), ht]; simp)]; rfl
theorem next_l {m : Nat} {es : Ed} (hv : Valid m es) {b : Nat} (hb : b < 2 ^ es.length) : ∀ d i : Nat, i + d = es.length →
    Ev (fun k => impl_nextOf.l0 k (b : Int) (toI (rowsOf m ((dirs es b).take i))) (es.length : Int) (i : Int) (m : Int) (toS es)) (toI (rowsOf m (dirs es b))) := by
  have hD := dirs_length es b
  have hR := dirs_inR hv.inR b
  have h10 := hv.len
  have hp := pow_le hv.len
  intro d
  induction d with
  | zero =>
    intro i hi
    refine Ev.step (f := fun _ => some (toI (rowsOf m (dirs es b)))) (fun k => ?_) (Ev.now _)
    simp only [impl_nextOf.l0]
    rw [if_neg (by omega), List.take_of_length_le (by omega)]
  | succ d ih =>
    intro i hi
    refine Ev.step (f := fun k => impl_nextOf.l0 k (b : Int) (toI (rowsOf m ((dirs es b).take (i + 1)))) (es.length : Int) ((i + 1 : Nat) : Int) (m : Int) (toS es)) (fun k => ?_) (ih (i + 1) (by omega))
    simp only [impl_nextOf.l0]
    rw [if_pos (by omega), ends_eq (by omega) (by omega) (by omega)]
    simp only [Option.bind_some]
    have he := hR _ (getD_mem (ds := dirs es b) (i := i) (by omega))
    have hlt := rows_small hv.le (take_inR hR i) ((dirs es b).getD i (0, 0)).1
    rw [if_pos (by omega), if_pos (by rw [toI_length, rowsOf_length]; omega), if_pos (by omega), rd_toI, shl_nat (by have := hv.le; omega), or_nat (by omega) (small (n := 5) (by omega) (Nat.pow_lt_pow_right (by omega) (by have := hv.le; omega))), Int.toNat_natCast, set_toI, wrap_id (by omega) (by omega)]
    rw [take_snoc (by omega)]
    simp only [rowsOf, List.foldl_append, List.foldl_cons, List.foldl_nil, addE]
    simp
theorem nextOf_ev {m : Nat} {es : Ed} (hv : Valid m es) {b : Nat} (hb : b < 2 ^ es.length) :
    Ev (fun k => impl_nextOf.f k (m : Int) (toS es) (b : Int)) (toI (rowsOf m (dirs es b))) := by
  refine Ev.congr (f := fun k => impl_nextOf.l0 k (b : Int) (toI (rowsOf m ((dirs es b).take 0))) (es.length : Int) ((0 : Nat) : Int) (m : Int) (toS es)) (fun k => ?_) (next_l hv hb es.length 0 (by omega))
  have h5 := hv.le
  unfold impl_nextOf.f
  rw [if_pos (by omega), if_pos (by omega), Int.toNat_natCast, repl_toI, toS_length]; rfl
end Go.Proofs.Ytjhedhpippppeaa.Lk
