/-
  FnEvens answers true: there is an even direction just if each node has an even number of edges; with edges they are even in number.
-/
import Derived.Test.YtjklkphhfkdkpaaMFnEvens
import Derived.Test.YtjklkphhfkdkpaaKEven
import Derived.Test.YtjklkphhfkdkpaaPx55
import Derived.Test.YtjklkphhfkdkpaaPx50
namespace Go.Proofs.Ytjklkphhfkdkpaa.Pure
open Go Go.RowKit Go.Proofs.YtjklkphhfkdkpaaW.PrintWords Go.Proofs.YtjklkphhfkdkpaaW.PrintLast Go.Proofs.YtjklkphhfkdkpaaW.PrintMore Go.Proofs.Ytjklkphhfkdkpaa.P Go.Proofs.Ytjklkphhfkdkpaa.Gw Go.Proofs.Ytjklkphhfkdkpaa.Lk
set_option linter.unusedVariables false
set_option linter.unusedSimpArgs false
def pk : List Nat → Nat
  | [] => 0
  | x :: l => x + 64 * pk l
theorem pk_set : ∀ (l : List Nat) (u : Nat), u < l.length → pk (l.set u (l.getD u 0 + 1)) = pk l + 64 ^ u
  | [], u, h => by simp at h
  | x :: l, 0, _ => by simp [pk]; omega
  | x :: l, u + 1, h => by
      have := pk_set l u (by simpa using h)
      simp only [List.getD_cons_succ, List.set_cons_succ, pk, this, Nat.pow_succ]; omega
def s1 : Ed → Nat
  | [] => 0
  | e :: ds => 64 ^ e.1 + s1 ds
theorem pk_outs {m : Nat} : ∀ (ds : Ed), InR m ds → ∀ l : List Nat, l.length = m → pk (ds.foldl addO l) = pk l + s1 ds
  | [], _, l, _ => by simp [s1]
  | e :: ds, h, l, hl => by
      have he := h e (List.mem_cons_self ..)
      rw [List.foldl_cons, pk_outs ds (fun x hx => h x (List.mem_cons_of_mem _ hx)) (addO l e) (by rw [addO_length, hl]), addO, pk_set l e.1 (by omega), s1]; omega
theorem pk_zero : ∀ n, pk (List.replicate n 0) = 0
  | 0 => rfl
  | n + 1 => by rw [List.replicate_succ, pk, pk_zero n]
theorem pk_outsOf {m : Nat} {ds : Ed} (h : InR m ds) : pk (outsOf m ds) = s1 ds := by
  rw [outsOf, pk_outs ds h _ (by simp), pk_zero, Nat.zero_add]
theorem pk_inj : ∀ (l l' : List Nat), l.length = l'.length → (∀ x ∈ l, x < 64) → (∀ x ∈ l', x < 64) → pk l = pk l' → l = l'
  | [], [], _, _, _, _ => rfl
  | [], _ :: _, h, _, _, _ => by simp at h
  | _ :: _, [], h, _, _, _ => by simp at h
  | x :: l, y :: l', h, h1, h2, he => by
      have hx := h1 x (List.mem_cons_self ..)
      have hy := h2 y (List.mem_cons_self ..)
      rw [pk, pk] at he
      have e1 : x = y := by omega
      have e2 : pk l = pk l' := by omega
      rw [e1, pk_inj l l' (by simpa using h) (fun z hz => h1 z (List.mem_cons_of_mem _ hz)) (fun z hz => h2 z (List.mem_cons_of_mem _ hz)) e2]
theorem s1_out : ∀ (es : Ed) (o : Nat), s1 (dirs es o) = outA es o
  | [], _ => rfl
  | e :: es, o => by
      have hb : Nat.beq (o % 2) 1 = o.testBit 0 := by
        rw [Nat.testBit_zero, Bool.eq_iff_iff, Nat.beq_eq, decide_eq_true_eq]
      rw [dirs, s1, s1_out es (o / 2), outA, hb]
      cases o.testBit 0 <;> rfl
theorem s1_rev : ∀ (es : Ed) (o : Nat), s1 (dirs es o) + s1 (rev (dirs es o)) = totA es
  | [], _ => rfl
  | e :: es, o => by
      have ih := s1_rev es (o / 2)
      have : rev (dirs (e :: es) o) = (bif o.testBit 0 then (e.1, e.2) else (e.2, e.1)) :: rev (dirs es (o / 2)) := by
        rw [dirs, rev, List.map_cons]
        cases o.testBit 0 <;> rfl
      rw [this, dirs, s1, s1, totA]
      cases o.testBit 0 <;> simp only [cond_true, cond_false] <;> omega
theorem outs_64 {m : Nat} {es : Ed} (hv : Valid m es) (b : Nat) : ∀ x ∈ outsOf m (dirs es b), x < 64 := by
  intro x hx
  obtain ⟨i, hi⟩ := List.getElem?_of_mem hx
  have h := outs_16 hv b i
  rw [List.getD_eq_getElem?_getD, hi] at h
  simp at h; omega
theorem evQ_eq {m : Nat} {es : Ed} (hv : Valid m es) {o : Nat} (ho : o < 2 ^ es.length) : evQ es (totA es) o = evenF m (dirs es o) := by
  have hR := dirs_inR hv.inR o
  have h1 := s1_out es o
  have h2 := s1_rev es o
  have p1 := pk_outsOf hR
  have p2 := pk_outsOf hR.rev
  have b2 := outs_64 hv (tn es.length o)
  rw [dirs_tn es o ho] at b2
  unfold evQ evenF
  rw [Bool.eq_iff_iff, Nat.beq_eq, decide_eq_true_eq]
  constructor
  · intro h
    exact pk_inj _ _ (by rw [outsOf_length, outsOf_length]) (outs_64 hv o) b2 (by omega)
  · intro h
    have := congrArg pk h
    omega
theorem even_chk {m : Nat} {es : Ed} (hv : Valid m es) : (Nat.beq (cScoreEvens m es) 0 = oddQ m es) ∧ (es.length = 0 → cScoreEvens m es = 1) ∧ (es.length ≠ 0 → cScoreEvens m es % 2 = 0) := by
  have h : chkEven m es = true := by
    have h1 := hv.pos; have h5 := hv.le
    rcases (show m = 1 ∨ m = 2 ∨ m = 3 ∨ m = 4 ∨ m = 5 by omega) with e | e | e | e | e <;> subst e
    · exact allSub_of _ _ even1 _ hv.sub
    · exact allSub_of _ _ even2 _ hv.sub
    · exact allSub_of _ _ even3 _ hv.sub
    · exact allSub_of _ _ even4 _ hv.sub
    · exact allSub_of _ _ even5 _ hv.sub
  unfold chkEven at h
  rw [force_eq, force_eq] at h
  have hc : cntP (evQ es (totA es)) (2 ^ es.length) = cScoreEvens m es := cntP_congr _ fun o ho => evQ_eq hv ho
  rw [hc] at h
  unfold chkEvenC at h
  rw [Bool.and_eq_true, beq_iff_eq] at h
  refine ⟨h.1, fun h0 => ?_, fun h0 => ?_⟩
  · have h2 := h.2
    rw [show Nat.beq es.length 0 = true by rw [Nat.beq_eq]; exact h0, cond_true, Nat.beq_eq] at h2
    exact h2
  · have h2 := h.2
    rw [show Nat.beq es.length 0 = false by rw [Bool.eq_false_iff, ne_eq, Nat.beq_eq]; exact h0, cond_false, Nat.beq_eq] at h2
    exact h2
def oddUpto (es : Ed) (v : Nat) : Bool := (List.range v).any fun v => Nat.beq (es.countP (atNode v) % 2) 1
theorem odd_succ (es : Ed) (v : Nat) : oddUpto es (v + 1) = (oddUpto es v || Nat.beq (es.countP (atNode v) % 2) 1) := by
  rw [oddUpto, List.range_succ, List.any_append]; simp [oddUpto]
theorem even_l1 {m : Nat} {es : Ed} (hv : Valid m es) (x4 : Int) {v : Nat} (hvm : v < m)
    (hk : Ev (fun k => laws_FnEvens.l0 k x4 (oddUpto es (v + 1)) ((v + 1 : Nat) : Int) (m : Int) (toS es)) true) : ∀ d i : Nat, i + d = es.length →
    Ev (fun k => laws_FnEvens.l1 k x4 (oddUpto es v) (v : Int) (((es.take i).countP (atNode v) : Nat) : Int) (i : Int) (m : Int) (toS es)) true := by
  have h5 := hv.le
  have h10 := hv.len
  have hts : (toS es).length = es.length := toS_length es
  intro d
  induction d with
  | zero =>
    intro i hi
    rw [odd_succ] at hk
    have hw1 : wrap64 ((v : Int) + 1) = ((v + 1 : Nat) : Int) := by rw [wrap_id (by omega) (by omega)]; simp
    have g1 : ¬ ((i : Int) < ((toS es).length : Int)) := by clear hw1; omega
    have hm : (Int.tmod ((es.countP (atNode v) : Nat) : Int) 2 == 1) = Nat.beq (es.countP (atNode v) % 2) 1 := by
      clear hw1
      rw [Int.tmod_eq_emod_of_nonneg (Int.natCast_nonneg _), Bool.eq_iff_iff, beq_iff_eq, Nat.beq_eq]; omega
    refine Ev.step (fun k => ?_) hk
    simp only [laws_FnEvens.l1]
    rw [List.take_of_length_le (by clear hw1; omega), if_neg g1, hm, hw1]
    cases oddUpto es v with
    | true => rw [if_pos rfl, Bool.true_or]
    | false => rw [if_neg (by simp), Bool.false_or]
  | succ d ih =>
    intro i hi
    have hk2 := ih (i + 1) (by omega)
    have hil : i < es.length := by omega
    have hc : (es.take (i + 1)).countP (atNode v) = (es.take i).countP (atNode v) + (if atNode v (es.getD i (0, 0)) = true then 1 else 0) := by
      rw [List.take_succ_eq_append_getElem hil, List.countP_append, List.countP_singleton, List.getD_eq_getElem?_getD, List.getElem?_eq_getElem hil]; rfl
    have hle : (es.take i).countP (atNode v) ≤ (es.take i).length := List.countP_le_length
    rw [List.length_take] at hle
    rw [hc] at hk2
    have hw1 : wrap64 ((i : Int) + 1) = ((i + 1 : Nat) : Int) := by rw [wrap_id (by omega) (by omega)]; simp
    have hw2 : wrap64 ((((es.take i).countP (atNode v) : Nat) : Int) + 1) = (((es.take i).countP (atNode v) + 1 : Nat) : Int) := by clear hw1; rw [wrap_id (by omega) (by omega)]; simp
    have g1 : (i : Int) < ((toS es).length : Int) := by clear hw1 hw2; omega
    refine Ev.step (fun k => ?_) hk2
    simp only [laws_FnEvens.l1]
    rw [if_pos g1, if_pos (Int.natCast_nonneg i), rd_toS, hw1, hw2]
    clear hw1 hw2 hc hk2 hk ih
    generalize es.getD i (0, 0) = e
    have ha : ∀ a b : Nat, Nat.beq a b = decide (a = b) := fun a b => by rw [Bool.eq_iff_iff, Nat.beq_eq, decide_eq_true_eq]
    unfold atNode
    rw [ha, ha]
    by_cases h1 : e.1 = v
    · rw [if_pos (by simp only; omega), decide_eq_true h1]; simp
    · rw [if_neg (by simp only; omega), decide_eq_false h1]
      by_cases h2 : e.2 = v
      · rw [if_pos (by simp only; omega), decide_eq_true h2]; simp
      · rw [if_neg (by simp only; omega), decide_eq_false h2]; simp
theorem even_l0 {m : Nat} {es : Ed} (hv : Valid m es) : ∀ d v : Nat, v + d = m →
    Ev (fun k => laws_FnEvens.l0 k ((cScoreEvens m es : Nat) : Int) (oddUpto es v) (v : Int) (m : Int) (toS es)) true := by
  have hts : (toS es).length = es.length := toS_length es
  obtain ⟨c1, c2, c3⟩ := even_chk hv
  intro d
  induction d with
  | zero =>
    intro v hvm
    obtain rfl : v = m := by omega
    refine Ev.step (f := fun _ => some true) (fun k => ?_) (Ev.now _)
    simp only [laws_FnEvens.l0]
    have hodd : oddUpto es v = oddQ v es := rfl
    have hz : ((((cScoreEvens v es : Nat) : Int) == 0) == oddUpto es v) = true := by
      rw [hodd, ← c1, beq_iff_eq, Bool.eq_iff_iff, beq_iff_eq, Nat.beq_eq]; omega
    rw [if_neg (Int.lt_irrefl _), if_pos hz, hts]
    by_cases h0 : es.length = 0
    · rw [if_pos (by omega), if_pos (by have := c2 h0; omega)]
    · have h2 := c3 h0
      have : (Int.tmod ((cScoreEvens v es : Nat) : Int) 2 == 0) = true := by
        rw [Int.tmod_eq_emod_of_nonneg (Int.natCast_nonneg _), beq_iff_eq]; omega
      rw [if_neg (by omega), if_pos (by omega), this]
  | succ d ih =>
    intro v hvm
    have h := even_l1 hv ((cScoreEvens m es : Nat) : Int) (show v < m by omega) (ih (v + 1) (by omega)) es.length 0 (by omega)
    refine Ev.step (fun k => ?_) h
    simp only [laws_FnEvens.l0]
    rw [if_pos (by omega)]; rfl
theorem FnEvens : laws_FnEvens.Pure := by
  intro l0 hm hb hw
  apply Ev.rounds
  simp only [laws_FnEvens.f]
  by_cases hbig : (l0.length : Int) > 1048576
  · simp only [if_pos hbig]; exact Ev.now true
  simp only [if_neg hbig]
  obtain ⟨m, xs, h1, h5, hl, he⟩ := some_ev (by omega) hw
  have hd : Ev (fun k => spec_DrawScoreEvens.f k l0) ((m : Int), xs) := by unfold spec_DrawScoreEvens.f; exact Ev.bind he (Ev.now _)
  refine Ev.bind hd ?_
  cases hg : gOk (m : Int) xs with
  | false =>
    refine Ev.bind (impl_ScoreEvens_no hl hg) (Ev.bind (spec_ScoreEvens_no hl hg) ?_)
    simp only [bne_self_eq_false, Bool.false_eq_true, if_false, if_true, Bool.not_false]
    refine Ev.step (fun k => by simp only [laws_FnEvens.j0]; rfl) ?_
    simp only [if_true, beq_self_eq_true]; exact Ev.now _
  | true =>
    obtain ⟨m', es, hmm, rfl, hv⟩ := gOk_valid hg
    obtain rfl : m = m' := by omega
    refine Ev.bind (impl_ScoreEvens_ev hv) (Ev.bind (spec_ScoreEvens_ev hv) ?_)
    simp only [bne_self_eq_false, Bool.false_eq_true, if_false, if_true, Bool.not_true]
    refine Ev.step (fun k => by simp only [laws_FnEvens.j0]; rfl) ?_
    simp only [Bool.false_eq_true, if_false]
    have h := even_l0 hv m 0 (by omega)
    exact h
end Go.Proofs.Ytjklkphhfkdkpaa.Pure
