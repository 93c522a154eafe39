/-
  A map with rows of five numbers as keys: which rows have been met; and a row's cells, copied and loaded.
-/
import Derived.Test.YtjhedhpippppeaaPx0
import Derived.Maps.OwnSet
import Derived.DeepKeys4
namespace Go.Proofs.Ytjhedhpippppeaa.P
open Go Go.RowKit Go.Maps Go.Proofs.YtjhedhpippppeaaW.PrintWords Go.Proofs.YtjhedhpippppeaaW.PrintLast Go.Proofs.YtjhedhpippppeaaW.PrintMore
set_option linter.unusedVariables false
set_option linter.unusedSimpArgs false
/-! the key's type -/
theorem mapLaid : laidOutB Try.prog = true := by kernel_rfl
theorem row73 : (73 : TypeId) < Try.prog.types.size := of_decide_eq_true (by kernel_rfl)
theorem wide73 : (match Try.prog.underlying 73 with | some (.array _ _) | some (.struct _) => true | _ => false) = true := by rw [Try.underlying73]
theorem law73 : Keyed Try.prog 73 := Keyed.of_law (deep_law_laid mapLaid (m := 2) (by omega) row73 (by kernel_rfl) wide73)
theorem keyType73 : Try.prog.keyType 73 = true := by kernel_rfl
theorem cells73 : Try.prog.cellsOf 73 = 5 := by kernel_rfl
theorem cells3 : Try.prog.cellsOf 3 = 1 := by kernel_rfl
theorem types99 : Try.prog.types.size = 99 + 1 := by kernel_rfl
def fits (x : Int) : Bool := (Lit.int .i64 x).wf
/-- a row's value -/
def rowV (l : List Int) : Value := .agg (encs (Value.int .i64) l).toArray
theorem keyLits3 (d : Nat) {a : Int} (h : (Lit.int .i64 a).wf = true) : Try.prog.keyLits (d + 1) 3 [.int .i64 a] = some [.int .i64 a] := by
  simp [Program.keyLits, Try.underlying3, h]
theorem keyLits73 (n : Nat) {a b c d e : Int} (h1 : (Lit.int .i64 a).wf = true) (h2 : (Lit.int .i64 b).wf = true) (h3 : (Lit.int .i64 c).wf = true) (h4 : (Lit.int .i64 d).wf = true) (h5 : (Lit.int .i64 e).wf = true) :
    Try.prog.keyLits (n + 1 + 1) 73 [.int .i64 a, .int .i64 b, .int .i64 c, .int .i64 d, .int .i64 e] = some [.int .i64 a, .int .i64 b, .int .i64 c, .int .i64 d, .int .i64 e] := by
  have r5 : List.range 5 = [0, 1, 2, 3, 4] := rfl
  unfold Program.keyLits
  rw [Try.underlying73]
  simp only [cells73, cells3, List.length_cons, List.length_nil, if_true, r5, List.mapM_cons, List.mapM_nil, Nat.mul_one, List.drop_succ_cons, List.drop_zero, List.take_succ_cons, List.take_zero, keyLits3 n h1, keyLits3 n h2, keyLits3 n h3, keyLits3 n h4, keyLits3 n h5]
  rfl
theorem key_ok {l : List Int} (h5 : l.length = 5) (hf : l.all fits = true) : ∃ kl, keyOf Try.prog 73 (rowV l) = some kl := by
  match l, h5 with
  | [a, b, c, d, e], _ =>
    simp only [List.all_cons, List.all_nil, Bool.and_true, Bool.and_eq_true, fits] at hf
    obtain ⟨h1, h2, h3, h4, h6⟩ := hf
    have hform : (rowV [a, b, c, d, e]).formed Try.prog 73 = true := by simp [rowV, encs, Value.formed, Try.underlying73, cells73]
    have hc : (rowV [a, b, c, d, e]).cells.toList = [.int .i64 a, .int .i64 b, .int .i64 c, .int .i64 d, .int .i64 e] := rfl
    unfold keyOf
    rw [Try.underlying73]
    simp only [keyType73, hform, Bool.and_self, if_true, hc]
    rw [types99, keyLits73 99 h1 h2 h3 h4 h6]
    exact ⟨_, rfl⟩
theorem rowV_inj {a b : List Int} (h : rowV a = rowV b) : a = b := by
  unfold rowV encs at h
  injection h with h
  have h2 := congrArg Array.toList h
  simp only at h2
  exact (List.map_inj_right (fun x y e => by injection e)).mp h2
/-! the map, told by the rows that are met -/
def addR (acc : List (List Int)) (l : List Int) : List (List Int) := if acc.contains l then acc else acc ++ [l]
structure Met (D : DataW Unit) (acc : List (List Int)) : Prop where
  size : Maps.size D = acc.length
  has : ∀ l kl, keyOf Try.prog 73 (rowV l) = some kl → Maps.has D kl = acc.contains l
theorem met_nil : Met (.map []) [] := ⟨rfl, fun l kl _ => rfl⟩
theorem Met.put {D : DataW Unit} {acc : List (List Int)} (h : Met D acc) (ht : Tidy D) {l : List Int} {kl : Lit} (hk : keyOf Try.prog 73 (rowV l) = some kl) (u : DataW Unit) : Met (D.put kl u) (addR acc l) := by
  refine ⟨?_, fun x kx hx => ?_⟩
  · rw [size_put ht, h.has l kl hk, h.size]
    unfold addR
    cases acc.contains l <;> simp
  · unfold addR
    by_cases e : kx = kl
    · subst e
      have : x = l := rowV_inj (law73.inj hx hk)
      subst this
      rw [has_put_same ht.isMap (law73.key hk)]
      split
      · rename_i hc; exact hc.symm
      · simp
    · have hne : ¬ x = l := fun e2 => by
        subst e2; rw [hx] at hk; exact e (Option.some.inj hk)
      rw [has_put_other e, h.has x kx hx]
      split
      · rfl
      · simp [hne]
theorem ownsMap_blk {H : Type} {P : Program} {k : TypeId} {R : Value → Option (DataW H × List MemPlace)} {w w' : World} {b n : Nat} {D : DataW H} (h : w.ownsMap P k R b n D) (hb : ∀ o, w.heap[b]? = some o → w'.heap[b]? = some o) : w'.ownsMap P k R b n D := by
  obtain ⟨es, clock, h1, r⟩ := h
  exact ⟨es, clock, hb _ h1, r⟩
theorem ownsMap_tight {H : Type} {P : Program} {k : TypeId} {R : Value → Option (DataW H × List MemPlace)} {w : World} {b n : Nat} {D : DataW H} (h : w.ownsMap P k R b n D) : w.ownsMap P k R b (Maps.size D) D := by
  obtain ⟨es, clock, h1, F, hs, rfl⟩ := h
  exact ⟨es, clock, h1, F, by simp [Maps.size, length_sorted], rfl⟩
theorem ne_map {H : Type} {P : Program} {k : TypeId} {R : Value → Option (DataW H × List MemPlace)} {w : World} {g b n : Nat} {D : DataW H} {cs : Array Value} {t : TypeId} {fr : Nat × Nat} (hg : w.heap[g]? = some (.cells cs t fr)) (h : w.ownsMap P k R b n D) : g ≠ b := by
  rintro rfl
  obtain ⟨es, clock, h1, r⟩ := h
  rw [hg] at h1
  injection h1 with h1
  cases h1
/-! the row's cells -/
theorem put_cells {W : World} {g : Nat} {t : TypeId} {cs : Array Value} (hb : W.heap[g]? = some (.cells cs t (0, 0))) (vs : List Value) (hl : vs.length ≤ cs.size) :
    (W.setCells g 0 vs).heap[g]? = some (.cells (vs ++ cs.toList.drop vs.length).toArray t (0, 0)) ∧ W.grownBy (W.setCells g 0 vs) (some g) := by
  obtain ⟨cur', h3, h4, h5⟩ := setCells_row vs 0 W cs hb (by omega)
  obtain ⟨s1, s2, s3, s4⟩ := setCells_same g vs 0 W
  refine ⟨?_, ⟨s1, s2, s3, by rw [s4]; exact Nat.le_refl _, fun k _ hk => setCells_far _ _ k (fun he => hk (by rw [he]))⟩⟩
  rw [h3, show cur' = (vs ++ cs.toList.drop vs.length).toArray by rw [← Array.toArray_toList (xs := cur'), h5]; simp]
def zero5 : Array Value := #[.int .i64 0, .int .i64 0, .int .i64 0, .int .i64 0, .int .i64 0]
theorem info73 : (Try.prog.info? 73).map (fun i => (i.zero, i.size)) = some (some (.agg zero5), 5) := by kernel_rfl
theorem build73 (w : World) : (Instr.build 73 #[]).run Try.prog w = .ok (.agg zero5) w := by
  obtain ⟨i, hi, he⟩ := Option.map_eq_some_iff.1 info73
  injection he with h1 h2
  obtain ⟨i3, hi3, _⟩ := Option.map_eq_some_iff.1 info3
  simp [Instr.build, zeroValue, typeInfo, hi, hi3, h1, run_underlying Try.underlying73, sizeOf, Instr.fill, Result.andThen, Value.cells]
theorem load73 {w : World} {g : Nat} {cs : Array Value} (hb : w.heap[g]? = some (.cells cs 73 (0, 0))) (h5 : cs.size = 5) : (Instr.loadAt 73 (.pointer (some ⟨g, 0, none⟩))).run Try.prog w = .ok (.agg cs) w := by
  obtain ⟨i, hi, he⟩ := Option.map_eq_some_iff.1 info73
  injection he with h1 h2
  have hl := run_loadCells_list (P := Try.prog) w ⟨g, 0, none⟩ cs.toList (fun j v hj => by
    have := blk_cell hb j
    simp only [Addr.add]
    split <;> simp_all)
  rw [Array.length_toList, h5] at hl
  simp [Instr.loadAt, Instr.sureAddr, loadVar, isAgg, run_underlying Try.underlying73, sizeOf, typeInfo, hi, h2, hl, Result.andThen]
section
variable {P : Program} {ops : Array Oper} {rest : List Oper} {o : Oper} {a : Act} {Q : Exit → Act → World → Prop} {W : World}
theorem map_event {k : TypeId} {H : Type} (R : Value → Option (DataW H × List MemPlace)) (hgd : o.guard = none) {t : TypeId} (ho : o.op = .makeMap t none)
    (h : ∀ g, g = W.heap.size → ∀ w1, w1.ownsMap P k R g 0 (.map []) → Below W.heap.size W w1 → wpList P ops Q rest (a.put o.dst (.map (some g))) w1) : wpList P ops Q (o :: rest) a W := by
  refine Kd.event_run hgd (v := .map (some W.heap.size)) (w1 := W.alloc (.map #[] 0)) ?_ (h _ rfl _ (World.ownsMap_made W P k R) (below_alloc (Below.refl _ _) _))
  unfold execOp
  simp only [ho, Option.map_none, run_makeMap, Sem.run_bind, Sem.run_pure, Result.andThen_ok]
theorem build_event (hgd : o.guard = none) (ho : o.op = .build 73 #[]) (h : wpList Try.prog ops Q rest (a.put o.dst (.agg zero5)) W) : wpList Try.prog ops Q (o :: rest) a W := by
  refine Kd.event_run hgd (w1 := W) ?_ h
  unfold execOp
  simp only [ho, List.map_toArray, List.map_nil, build73, Sem.run_bind, Sem.run_pure, Result.andThen_ok]
theorem load_event (hgd : o.guard = none) {p : Operand} (ho : o.op = .load 73 p) {g : Nat} {cs : Array Value} (hp : a.eval p = .pointer (some ⟨g, 0, none⟩)) (hb : W.heap[g]? = some (.cells cs 73 (0, 0))) (h5 : cs.size = 5)
    (h : wpList Try.prog ops Q rest (a.put o.dst (.agg cs)) W) : wpList Try.prog ops Q (o :: rest) a W := by
  refine Kd.event_run hgd (w1 := W) ?_ h
  unfold execOp
  simp only [ho, hp, load73 hb h5, Sem.run_bind, Sem.run_pure, Result.andThen_ok]
/-- noughts stored over noughts -/
theorem store73_event (hgd : o.guard = none) {p x : Operand} (ho : o.op = .store 73 p x) (hN : o.dst = none) {g : Nat} (hp : a.eval p = .pointer (some ⟨g, 0, none⟩)) (hx : a.eval x = .agg zero5) (hb : W.heap[g]? = some (.cells zero5 73 (0, 0)))
    (h : ∀ w1, w1.heap[g]? = some (.cells zero5 73 (0, 0)) → W.grownBy w1 (some g) → wpList Try.prog ops Q rest a w1) : wpList Try.prog ops Q (o :: rest) a W := by
  obtain ⟨i, hi, he⟩ := Option.map_eq_some_iff.1 info73
  injection he with h1 h2
  have hr := run_store_run (P := Try.prog) (w := W) (g := g) (o := 0) (cur := zero5) (e := 73) 73 (.agg zero5) zero5.toList hb rfl (by rw [hi]; simp [h2]; rfl) (by simp) (by intro q hq; simp [zero5] at hq; rw [hq]; rfl)
  have hc := put_cells hb zero5.toList (by simp)
  refine wpList_plain hgd fun K hK => ?_
  unfold Oper.wp execOp
  simp only [ho, hp, hx, hr, Sem.run_bind, Sem.run_pure, Result.andThen_ok]
  show K (a.put o.dst undef) _
  rw [hN]
  refine hK _ _ (h _ ?_ hc.2)
  rw [hc.1]; rfl
/-- a row of five: what is copied over five noughts -/
def pad5 (l : List Int) : List Int := l ++ List.replicate (5 - l.length) 0
theorem pad5_cells {r : List Int} (h5 : r.length ≤ 5) : (encs (Value.int .i64) r ++ zero5.toList.drop (encs (Value.int .i64) r).length).toArray = (encs (Value.int .i64) (pad5 r)).toArray := by
  have hz : zero5.toList = List.replicate 5 (Value.int .i64 0) := rfl
  rw [hz, encs_length, List.drop_replicate, pad5, encs_append]
  simp [encs]
theorem pad5_len {r : List Int} (h5 : r.length ≤ 5) : (pad5 r).length = 5 := by unfold pad5; rw [List.length_append, List.length_replicate]; omega
theorem copy5 {g : Nat} (hb : W.heap[g]? = some (.cells zero5 73 (0, 0))) {A : Option Addr} {c : Nat} {r : List Int} (HR : Kd.C (Kd.int .i64) W A r.length r) (h5 : r.length ≤ 5) (ty : TypeId) :
    (Builtin.copy_ #[28, 28] ty #[.slice (some ⟨g, 0, none⟩) 5 5, .slice A r.length c]).run Try.prog W = .ok (goInt (r.length : Nat)) (W.setCells g 0 (encs (Value.int .i64) r)) := by
  have hinfo : (Try.prog.info? 3).map (·.size) = some 1 := by
    obtain ⟨i, hi, he⟩ := Option.map_eq_some_iff.1 info3
    injection he with h1 h2
    rw [hi]; simpa using congrArg Prod.fst h2
  have hR := Kd.reads_of_C (enc := Value.int .i64) (d := (0 : Int)) HR
  by_cases h0 : r.length = 0
  · have hn := run_copy_none (P := Try.prog) W 28 28 ty 3 (some ⟨g, 0, none⟩) A 5 5 r.length c Try.underlying28 hinfo (by rw [h0]; rfl)
    have hr : r = [] := List.length_eq_zero_iff.mp h0
    rw [hn]; subst hr; rfl
  · obtain ⟨ad, hA, hc⟩ := hR.2.2 (by omega)
    subst hA
    have hmin : (encs (Value.int .i64) r).length = Nat.min r.length 5 := by rw [encs_length]; exact (Nat.min_eq_left h5).symm
    have hr := run_copy_cells (P := Try.prog) W 28 28 ty 3 g 0 5 5 ad r.length c (encs (Value.int .i64) r) Try.underlying28 hinfo hmin
      (fun j u hu => by
        have hj : j < r.length := by
          rcases Nat.lt_or_ge j r.length with h | h
          · exact h
          · rw [List.getElem?_eq_none (by rw [encs_length]; exact h)] at hu; cases hu
        rw [encs_get (d := (0 : Int)) _ j hj] at hu
        rw [hc j hj, ← hu])
      (fun j hj => by rw [Nat.zero_add, blk_cell hb]; rw [encs_length] at hj; have : j < zero5.size := by show j < 5; omega
                      rw [Array.getElem?_eq_getElem this]; rfl)
      (fun j _ => blk_frozen hb _)
      (by intro u hu; simp only [encs, List.mem_map] at hu; obtain ⟨q, _, rfl⟩ := hu; rfl)
    rw [hr, encs_length]
theorem copy_step {Kc : Act → World → Prop} (hw : Region.wanted o (yielded ops a.tmps) = true) {s x : Operand} (ho : o.op = .call { callee := .builtin .copy, args := #[s, x], argTypes := #[28, 28] }) {g : Nat} {A : Option Addr} {c : Nat} {r : List Int}
    (hs : a.eval s = .slice (some ⟨g, 0, none⟩) 5 5) (hx : a.eval x = .slice A r.length c) (hb : W.heap[g]? = some (.cells zero5 73 (0, 0))) (HR : Kd.C (Kd.int .i64) W A r.length r) (h5 : r.length ≤ 5)
    (h : ∀ w1, w1.heap[g]? = some (.cells (encs (Value.int .i64) (pad5 r)).toArray 73 (0, 0)) → W.grownBy w1 (some g) → Kc (a.put o.dst (goInt (r.length : Nat))) w1) :
    if Region.wanted o (yielded ops a.tmps) = true then Oper.wp Try.prog o a W Kc Q else Kc (a.put o.dst undef) W := by
  have hc := put_cells hb (encs (Value.int .i64) r) (by rw [encs_length]; exact h5)
  rw [pad5_cells h5] at hc
  refine event_step hw ?_ (h _ hc.1 hc.2)
  unfold execOp
  simp only [ho, resolve, invoke, builtin, Sem.run_bind, Sem.run_pure, Result.andThen_ok, List.map_toArray, List.map_cons, List.map_nil, hs, hx, copy5 hb HR h5]
end
end Go.Proofs.Ytjhedhpippppeaa.P
