/-
  Plain theory: sets of nodes as numbers, reach, acyclic directions, degrees, parts, blocks; no program in sight.
-/
section
namespace Go.Proofs.Ytjhedhpippppeaa.Gw

/-! sublists -/
def allSub {α : Type} : List α → (List α → Bool) → Bool
  | [], k => k []
  | x :: xs, k => allSub xs (fun l => k (x :: l)) && allSub xs k

theorem allSub_of {α : Type} : ∀ (xs : List α) (k : List α → Bool), allSub xs k = true → ∀ l, l.Sublist xs → k l = true
  | [], k, h, l, hl => by
      have : l = [] := by simpa using hl
      subst this; exact h
  | x :: xs, k, h, l, hl => by
      simp only [allSub, Bool.and_eq_true] at h
      cases hl with
      | cons _ h1 => exact allSub_of xs k h.2 l h1
      | cons_cons _ h1 => exact allSub_of xs _ h.1 _ h1

theorem sublist_of_sorted {α : Type} (r : α → α → Prop) (irr : ∀ a, ¬ r a a) (tr : ∀ a b c, r a b → r b c → r a c) :
    ∀ (xs l : List α), xs.Pairwise r → l.Pairwise r → (∀ x ∈ l, x ∈ xs) → l.Sublist xs
  | [], l, _, _, h => by
      cases l with
      | nil => exact List.Sublist.refl _
      | cons y ys => exact absurd (h y (by simp)) (by simp)
  | x :: xs, [], _, _, _ => List.nil_sublist _
  | x :: xs, y :: ys, hx, hy, h => by
      rw [List.pairwise_cons] at hx hy
      by_cases e : y = x
      · subst e
        refine List.Sublist.cons_cons _ (sublist_of_sorted r irr tr xs ys hx.2 hy.2 fun z hz => ?_)
        rcases List.mem_cons.mp (h z (List.mem_cons_of_mem _ hz)) with e | e
        · subst e; exact absurd (hy.1 z hz) (irr z)
        · exact e
      · have hyx : y ∈ xs := (List.mem_cons.mp (h y (by simp))).resolve_left e
        refine List.Sublist.cons _ (sublist_of_sorted r irr tr xs (y :: ys) hx.2 (List.pairwise_cons.mpr hy) fun z hz => ?_)
        rcases List.mem_cons.mp hz with e1 | e1
        · subst e1; exact hyx
        · rcases List.mem_cons.mp (h z (List.mem_cons_of_mem _ e1)) with e2 | e2
          · subst e2; exact absurd (tr _ _ _ (hx.1 y hyx) (hy.1 z e1)) (irr z)
          · exact e2
end Go.Proofs.Ytjhedhpippppeaa.Gw
end
section
namespace Go.Proofs.Ytjhedhpippppeaa.Gw
/-- one step of reach: rows are sets of next nodes -/
def stepL : List Nat → Nat → Nat → Nat → Nat
  | [], _, _, m => m
  | r :: rs, u, s, m => stepL rs (u + 1) s (bif s.testBit u then m ||| r else m)
def step (rows : List Nat) (s : Nat) : Nat := stepL rows 0 s s

theorem testBit_stepL (rows : List Nat) : ∀ (u s m b : Nat), (stepL rows u s m).testBit b = true ↔ (m.testBit b = true ∨ ∃ i r, rows[i]? = some r ∧ s.testBit (u + i) = true ∧ r.testBit b = true) := by
  induction rows with
  | nil => intro u s m b; simp [stepL]
  | cons r rs ih =>
    intro u s m b
    rw [stepL, ih]
    constructor
    · rintro (h | ⟨i, r', h1, h2, h3⟩)
      · cases hs : s.testBit u with
        | true =>
          rw [hs] at h; simp only [cond_true, Nat.testBit_or, Bool.or_eq_true] at h
          rcases h with h | h
          · exact .inl h
          · exact .inr ⟨0, r, rfl, hs, h⟩
        | false => rw [hs] at h; exact .inl h
      · exact .inr ⟨i + 1, r', by simpa using h1, by rw [← h2]; congr 1; omega, h3⟩
    · rintro (h | ⟨i, r', h1, h2, h3⟩)
      · left; cases hs : s.testBit u <;> simp [h]
      · cases i with
        | zero =>
          simp at h1; subst h1
          left; rw [show s.testBit u = true from h2]; simp [h3]
        | succ i => exact .inr ⟨i, r', by simpa using h1, by rw [← h2]; congr 1; omega, h3⟩

theorem testBit_step (rows : List Nat) (s b : Nat) : (step rows s).testBit b = true ↔ (s.testBit b = true ∨ ∃ i r, rows[i]? = some r ∧ s.testBit i = true ∧ r.testBit b = true) := by
  rw [step, testBit_stepL]; simp

/-- s is a part of t -/
def Sub (s t : Nat) : Prop := ∀ b, s.testBit b = true → t.testBit b = true
theorem Sub.refl (s : Nat) : Sub s s := fun _ h => h
theorem Sub.trans {s t u : Nat} (h : Sub s t) (k : Sub t u) : Sub s u := fun b hb => k b (h b hb)
theorem Sub.antisymm {s t : Nat} (h : Sub s t) (k : Sub t s) : s = t := by
  apply Nat.eq_of_testBit_eq; intro b
  cases hs : s.testBit b <;> cases ht : t.testBit b <;> first | rfl | (have := h b hs; simp_all) | (have := k b ht; simp_all)
theorem Sub.and {s t : Nat} (h : Sub s t) : s &&& t = s := by
  apply Sub.antisymm
  · intro b hb; rw [Nat.testBit_and] at hb; simp at hb; exact hb.1
  · intro b hb; rw [Nat.testBit_and, hb, h b hb]; rfl

theorem sub_step (rows : List Nat) (s : Nat) : Sub s (step rows s) := fun b hb => (testBit_step rows s b).mpr (.inl hb)
theorem step_mono (rows : List Nat) {s t : Nat} (h : Sub s t) : Sub (step rows s) (step rows t) := by
  intro b hb
  rw [testBit_step] at hb ⊢
  rcases hb with hb | ⟨i, r, h1, h2, h3⟩
  · exact .inl (h b hb)
  · exact .inr ⟨i, r, h1, h i h2, h3⟩

def pc5 (s : Nat) : Nat := s % 2 + s / 2 % 2 + s / 4 % 2 + s / 8 % 2 + s / 16 % 2
theorem pc5_lt : ∀ s, s < 32 → ∀ t, t < 32 → s &&& t = s → s ≠ t → pc5 s < pc5 t := by decide +kernel
theorem pc5_le : ∀ s, s < 32 → pc5 s ≤ 5 := by decide
theorem pc5_pow : ∀ v, v < 5 → pc5 (2 ^ v) = 1 := by decide

theorem stepL_lt (rows : List Nat) (hr : ∀ r ∈ rows, r < 32) : ∀ (u s m : Nat), m < 32 → stepL rows u s m < 32 := by
  induction rows with
  | nil => intro u s m h; exact h
  | cons r rs ih =>
    intro u s m h
    rw [stepL]
    apply ih (fun r h => hr r (by simp [h]))
    cases s.testBit u
    · exact h
    · exact Nat.or_lt_two_pow (n := 5) h (hr r (by simp))
theorem step_lt {rows : List Nat} (hr : ∀ r ∈ rows, r < 32) {s : Nat} (h : s < 32) : step rows s < 32 := stepL_lt rows hr 0 s s h

/-- the set of nodes to which ways lead from those of a set -/
def close (rows : List Nat) (s : Nat) : Nat := step rows (step rows (step rows (step rows s)))

theorem close_fix {rows : List Nat} (hr : ∀ r ∈ rows, r < 32) {s : Nat} (h : s < 32) (h0 : 1 ≤ pc5 s) : step rows (close rows s) = close rows s := by
  have l1 := step_lt hr h
  have l2 := step_lt hr l1
  have l3 := step_lt hr l2
  have l4 := step_lt hr l3
  have l5 := step_lt hr l4
  unfold close
  by_cases e1 : s = step rows s
  · rw [← e1, ← e1, ← e1, ← e1, ← e1]
  by_cases e2 : step rows s = step rows (step rows s)
  · rw [← e2, ← e2, ← e2, ← e2]
  by_cases e3 : step rows (step rows s) = step rows (step rows (step rows s))
  · rw [← e3, ← e3, ← e3]
  by_cases e4 : step rows (step rows (step rows s)) = step rows (step rows (step rows (step rows s)))
  · rw [← e4, ← e4]
  have p1 := pc5_lt _ h _ l1 (sub_step rows s).and e1
  have p2 := pc5_lt _ l1 _ l2 (sub_step rows _).and e2
  have p3 := pc5_lt _ l2 _ l3 (sub_step rows _).and e3
  have p4 := pc5_lt _ l3 _ l4 (sub_step rows _).and e4
  by_cases e5 : step rows (step rows (step rows (step rows s))) = step rows (step rows (step rows (step rows (step rows s))))
  · exact e5.symm
  have p5 := pc5_lt _ l4 _ l5 (sub_step rows _).and e5
  have := pc5_le _ l5
  omega

/-- the closure lies in each closed set -/
theorem close_sub {rows : List Nat} {s t : Nat} (h : Sub s t) (ht : step rows t = t) : Sub (close rows s) t := by
  unfold close
  have a1 : ∀ s, Sub s t → Sub (step rows s) t := fun s h => by have := step_mono rows h; rwa [ht] at this
  exact a1 _ (a1 _ (a1 _ (a1 _ h)))
theorem sub_close (rows : List Nat) (s : Nat) : Sub s (close rows s) :=
  (sub_step rows s).trans ((sub_step rows _).trans ((sub_step rows _).trans (sub_step rows _)))
theorem close_lt {rows : List Nat} (hr : ∀ r ∈ rows, r < 32) {s : Nat} (h : s < 32) : close rows s < 32 := step_lt hr (step_lt hr (step_lt hr (step_lt hr h)))
end Go.Proofs.Ytjhedhpippppeaa.Gw
end
section
namespace Go.Proofs.Ytjhedhpippppeaa.Gw
abbrev Ed := List (Nat × Nat)
/-- an edge is laid into the rows of next nodes -/
def addE (rows : List Nat) (e : Nat × Nat) : List Nat := rows.set e.1 (rows.getD e.1 0 ||| 2 ^ e.2)
def rowsOf (n : Nat) (ds : Ed) : List Nat := ds.foldl addE (List.replicate n 0)
/-- the edges with their directions -/
def dirs : Ed → Nat → Ed
  | [], _ => []
  | e :: es, o => (bif o.testBit 0 then (e.2, e.1) else e) :: dirs es (o / 2)

theorem dirs_length : ∀ (es : Ed) (o : Nat), (dirs es o).length = es.length
  | [], _ => rfl
  | _ :: es, o => by simp [dirs, dirs_length es]
theorem dirs_get : ∀ (es : Ed) (o i : Nat), (dirs es o)[i]? = (es[i]?).map (fun e => bif o.testBit i then (e.2, e.1) else e)
  | [], _, _ => by simp [dirs]
  | e :: es, o, 0 => by simp [dirs]
  | e :: es, o, i + 1 => by
      rw [dirs, List.getElem?_cons_succ, dirs_get es, List.getElem?_cons_succ, Nat.testBit_div_two]

def InR (n : Nat) (ds : Ed) : Prop := ∀ e ∈ ds, e.1 < n ∧ e.2 < n

theorem addE_length (rows : List Nat) (e : Nat × Nat) : (addE rows e).length = rows.length := by simp [addE]
theorem addE_bit (rows : List Nat) (e : Nat × Nat) (he : e.1 < rows.length) (u b : Nat) :
    ((addE rows e).getD u 0).testBit b = true ↔ ((rows.getD u 0).testBit b = true ∨ (u = e.1 ∧ b = e.2)) := by
  unfold addE
  by_cases h : u = e.1
  · subst h
    rw [List.getD_eq_getElem?_getD, List.getElem?_set_self he, Option.getD_some, Nat.testBit_or, Nat.testBit_two_pow]
    simp [@eq_comm _ e.2 b]
  · have h' : ¬ e.1 = u := fun k => h k.symm
    simp [List.getD_eq_getElem?_getD, h, h']
theorem fold_length (ds : Ed) : ∀ rows : List Nat, (ds.foldl addE rows).length = rows.length := by
  induction ds with
  | nil => intro rows; rfl
  | cons e ds ih => intro rows; rw [List.foldl_cons, ih, addE_length]
theorem fold_bit (ds : Ed) : ∀ (rows : List Nat), InR rows.length ds → ∀ u b,
    ((ds.foldl addE rows).getD u 0).testBit b = true ↔ ((rows.getD u 0).testBit b = true ∨ (u, b) ∈ ds) := by
  induction ds with
  | nil => intro rows _ u b; simp
  | cons e ds ih =>
    intro rows h u b
    rw [List.foldl_cons, ih _ (by rw [addE_length]; exact fun x hx => h x (by simp [hx])), addE_bit _ _ (h e (by simp)).1]
    simp only [List.mem_cons, or_assoc]
    obtain ⟨x, y⟩ := e
    simp [Prod.ext_iff]
theorem rowsOf_length (n : Nat) (ds : Ed) : (rowsOf n ds).length = n := by simp [rowsOf, fold_length]
theorem rowsOf_bit {n : Nat} {ds : Ed} (h : InR n ds) (u b : Nat) : ((rowsOf n ds).getD u 0).testBit b = true ↔ (u, b) ∈ ds := by
  rw [rowsOf, fold_bit ds _ (by simpa using h)]
  have : ((List.replicate n 0).getD u 0).testBit b = false := by
    simp [List.getD_eq_getElem?_getD, List.getElem?_replicate]; split <;> simp
  rw [this]; simp
theorem lt_two_pow_of_bits {s n : Nat} (h : ∀ b, s.testBit b = true → b < n) : s < 2 ^ n := by
  apply Nat.lt_pow_two_of_testBit
  intro i hi
  cases hs : s.testBit i with
  | false => rfl
  | true => exact absurd (h i hs) (by omega)
theorem rowsOf_lt {n : Nat} {ds : Ed} (h : InR n ds) : ∀ r ∈ rowsOf n ds, r < 2 ^ n := by
  intro r hr
  obtain ⟨u, hu, rfl⟩ := List.getElem_of_mem hr
  apply lt_two_pow_of_bits
  intro b hb
  have := (rowsOf_bit h u b).mp (by simpa [List.getD_eq_getElem?_getD, hu] using hb)
  exact (h _ this).2

/-- closed under going along the edges -/
def Closed (ds : Ed) (t : Nat) : Prop := ∀ e ∈ ds, t.testBit e.1 = true → t.testBit e.2 = true
theorem step_fix {n : Nat} {ds : Ed} (h : InR n ds) (t : Nat) : step (rowsOf n ds) t = t ↔ Closed ds t := by
  constructor
  · intro hf e he ht
    rw [← hf, testBit_step]
    have hl := (h e he).1
    have hl' : e.1 < (rowsOf n ds).length := by rw [rowsOf_length]; exact hl
    refine .inr ⟨e.1, (rowsOf n ds)[e.1], by simp [hl'], ht, ?_⟩
    have := (rowsOf_bit h e.1 e.2).mpr he
    simpa [List.getD_eq_getElem?_getD, hl'] using this
  · intro hc
    apply Sub.antisymm _ (sub_step _ _)
    intro b hb
    rw [testBit_step] at hb
    rcases hb with hb | ⟨i, r, h1, h2, h3⟩
    · exact hb
    · have := (rowsOf_bit h i b).mp (by simpa [List.getD_eq_getElem?_getD, h1] using h3)
      exact hc _ this h2

theorem pow5 {n x : Nat} (hn : n ≤ 5) (h : x < 2 ^ n) : x < 32 := Nat.lt_of_lt_of_le h (Nat.pow_le_pow_right (i := n) (j := 5) (by omega) hn)
/-- the reference's reach: edges in order, n rounds -/
def lstep (s : Nat) (e : Nat × Nat) : Nat := bif s.testBit e.1 then s ||| 2 ^ e.2 else s
def lRound (ds : Ed) (s : Nat) : Nat := ds.foldl lstep s
def lReach : Nat → Ed → Nat → Nat
  | 0, _, s => s
  | n + 1, ds, s => lReach n ds (lRound ds s)

theorem sub_or_left (s t : Nat) : Sub s (s ||| t) := fun b h => by simp [Nat.testBit_or, h]
theorem lstep_sub (s : Nat) (e : Nat × Nat) : Sub s (lstep s e) := by
  unfold lstep
  cases s.testBit e.1
  · exact Sub.refl _
  · exact sub_or_left _ _
theorem sub_lRound (ds : Ed) : ∀ s, Sub s (lRound ds s) := by
  induction ds with
  | nil => intro s; exact Sub.refl _
  | cons e ds ih => intro s; exact (lstep_sub s e).trans (ih _)
theorem lRound_sub {ds0 : Ed} (ds : Ed) (hd : ∀ e ∈ ds, e ∈ ds0) {t : Nat} (ht : Closed ds0 t) : ∀ s, Sub s t → Sub (lRound ds s) t := by
  induction ds with
  | nil => intro s h; exact h
  | cons e ds ih =>
    intro s h
    refine ih (fun x hx => hd x (by simp [hx])) _ ?_
    unfold lstep
    cases hs : s.testBit e.1
    · exact h
    · intro b hb
      simp only [cond_true, Nat.testBit_or, Bool.or_eq_true, Nat.testBit_two_pow, decide_eq_true_eq] at hb
      rcases hb with hb | hb
      · exact h b hb
      · subst hb; exact ht e (hd e (by simp)) (h _ hs)
theorem lRound_closed (ds : Ed) : ∀ s, lRound ds s = s → Closed ds s := by
  induction ds with
  | nil => intro s _ e he; simp at he
  | cons e ds ih =>
    intro s h x hx
    have h1 : (lstep s e) = s := by
      apply Sub.antisymm _ (lstep_sub s e)
      have := sub_lRound ds (lstep s e)
      rwa [show lRound ds (lstep s e) = s from h] at this
    rcases List.mem_cons.mp hx with e1 | e1
    · subst e1
      intro ht
      rw [lstep, ht] at h1; simp only [cond_true] at h1
      rw [← h1]; simp [Nat.testBit_or]
    · apply ih s _ x e1
      have : lRound (e :: ds) s = lRound ds (lstep s e) := rfl
      rw [this, h1] at h; exact h
theorem lRound_lt {n : Nat} (ds : Ed) (hd : InR n ds) : ∀ s, s < 2 ^ n → lRound ds s < 2 ^ n := by
  induction ds with
  | nil => intro s h; exact h
  | cons e ds ih =>
    intro s h
    apply ih (fun x hx => hd x (by simp [hx]))
    unfold lstep
    cases s.testBit e.1
    · exact h
    · exact Nat.or_lt_two_pow h (Nat.pow_lt_pow_right (by omega) (hd e (by simp)).2)

theorem pc5_le_n : ∀ n, n < 6 → ∀ s, s < 2 ^ n → pc5 s ≤ n := by decide
theorem lReach_fix {n0 : Nat} (hn0 : n0 ≤ 5) {ds : Ed} (hd : InR n0 ds) : ∀ (n s : Nat), s < 2 ^ n0 → n0 < pc5 s + n → lRound ds (lReach n ds s) = lReach n ds s := by
  intro n
  have h32 : ∀ s, s < 2 ^ n0 → s < 32 := fun s h => pow5 hn0 h
  induction n with
  | zero =>
    intro s h hp
    have := pc5_le_n n0 (by omega) s h; omega
  | succ n ih =>
    intro s h hp
    by_cases e : s = lRound ds s
    · have : ∀ m, lReach m ds s = s := by intro m; induction m with
        | zero => rfl
        | succ m ihm => rw [lReach, ← e]; exact ihm
      rw [this]; exact e.symm
    · have hl := lRound_lt ds hd s h
      have := pc5_lt s (h32 s h) _ (h32 _ hl) (sub_lRound ds s).and e
      exact ih _ hl (by omega)
theorem sub_lReach (n : Nat) (ds : Ed) : ∀ s, Sub s (lReach n ds s) := by
  induction n with
  | zero => intro s; exact Sub.refl _
  | succ n ih => intro s; exact (sub_lRound ds s).trans (ih _)
theorem lReach_sub (n : Nat) {ds : Ed} {t : Nat} (ht : Closed ds t) : ∀ s, Sub s t → Sub (lReach n ds s) t := by
  induction n with
  | zero => intro s h; exact h
  | succ n ih => intro s h; exact ih _ (lRound_sub ds (fun _ h => h) ht s h)

theorem lReach_eq {n : Nat} (hn : n ≤ 5) {ds : Ed} (hd : InR n ds) {v : Nat} (hv : v < n) : lReach n ds (2 ^ v) = close (rowsOf n ds) (2 ^ v) := by
  have hp : 1 ≤ pc5 (2 ^ v) := Nat.le_of_eq (pc5_pow v (by omega)).symm
  have hlt : 2 ^ v < 2 ^ n := Nat.pow_lt_pow_right (by omega) hv
  have hr : ∀ r ∈ rowsOf n ds, r < 32 := fun r h => pow5 hn (rowsOf_lt hd r h)
  have h32 : 2 ^ v < 32 := pow5 hn hlt
  apply Sub.antisymm
  · exact lReach_sub n ((step_fix hd _).mp (close_fix hr h32 hp)) _ (sub_close _ _)
  · exact close_sub (sub_lReach n ds _) ((step_fix hd _).mpr (lRound_closed ds _ (lReach_fix hn hd n _ hlt (by omega))))
end Go.Proofs.Ytjhedhpippppeaa.Gw
end
section
namespace Go.Proofs.Ytjhedhpippppeaa.Gw
/-- a set without another's members -/
def andn (a b : Nat) : Nat := a ^^^ (a &&& b)
theorem andn_bit (a b i : Nat) : (andn a b).testBit i = (a.testBit i && !b.testBit i) := by
  unfold andn; rw [Nat.testBit_xor, Nat.testBit_and]; cases a.testBit i <;> cases b.testBit i <;> rfl
theorem andn_lt {a b n : Nat} (h : a < 2 ^ n) : andn a b < 2 ^ n := by
  apply lt_two_pow_of_bits; intro i hi
  rw [andn_bit] at hi; simp only [Bool.and_eq_true] at hi
  exact Nat.lt_of_not_le fun hl => by
    rw [Nat.testBit_lt_two_pow (Nat.lt_of_lt_of_le h (Nat.pow_le_pow_right (by omega) hl))] at hi; simp at hi
theorem bit_lt {a n i : Nat} (h : a < 2 ^ n) (hi : a.testBit i = true) : i < n :=
  Nat.lt_of_not_le fun hl => by
    rw [Nat.testBit_lt_two_pow (Nat.lt_of_lt_of_le h (Nat.pow_le_pow_right (by omega) hl))] at hi; simp at hi
theorem full_bit (n i : Nat) : (2 ^ n - 1).testBit i = decide (i < n) := Nat.testBit_two_pow_sub_one n i
theorem eq_zero_of_bits {a : Nat} (h : ∀ i, a.testBit i = false) : a = 0 := by
  apply Nat.eq_of_testBit_eq; intro i; rw [h i]; simp
theorem exists_bit {a : Nat} (h : a ≠ 0) : ∃ i, a.testBit i = true := by
  apply Classical.byContradiction; intro k
  exact h (eq_zero_of_bits fun i => by cases e : a.testBit i with
    | false => rfl
    | true => exact absurd ⟨i, e⟩ k)

/-- sets that are left when nodes without edges to those left go, one by one -/
inductive Peel (n : Nat) (ds : Ed) : Nat → Prop
  | all : Peel n ds (2 ^ n - 1)
  | go {s v : Nat} : Peel n ds s → s.testBit v = true → (∀ e ∈ ds, e.1 = v → s.testBit e.2 = false) → Peel n ds (andn s (2 ^ v))

theorem Peel.closed {n : Nat} {ds : Ed} (hd : InR n ds) {s : Nat} (h : Peel n ds s) : ∀ e ∈ ds, s.testBit e.1 = false → s.testBit e.2 = false := by
  induction h with
  | all => intro e he h1; rw [full_bit] at h1; simp at h1; have := (hd e he).1; omega
  | go hp hv hf ih =>
    intro e he h1
    rw [andn_bit] at h1 ⊢
    rw [Nat.testBit_two_pow] at h1 ⊢
    simp only [Bool.and_eq_false_iff, Bool.not_eq_false', decide_eq_true_eq] at h1 ⊢
    rcases h1 with h1 | h1
    · exact .inl (ih e he h1)
    · exact .inl (hf e he h1.symm)
theorem Peel.meets {n : Nat} {ds : Ed} (hd : InR n ds) {S : Nat} (hS : S < 2 ^ n) (h0 : S ≠ 0) (hb : ∀ v, S.testBit v = true → ∃ e ∈ ds, e.2 = v ∧ S.testBit e.1 = true)
    {s : Nat} (h : Peel n ds s) : ∃ v, S.testBit v = true ∧ s.testBit v = true := by
  induction h with
  | all =>
    obtain ⟨v, hv⟩ := exists_bit h0
    exact ⟨v, hv, by rw [full_bit]; simpa using bit_lt hS hv⟩
  | go hp hv hf ih =>
    rename_i s v
    apply Classical.byContradiction
    intro k
    have k' : ∀ u, S.testBit u = true → s.testBit u = true → u = v := fun u h1 h2 => Classical.byContradiction fun h3 => k ⟨u, h1, by
      rw [andn_bit, h2, Nat.testBit_two_pow]; simp; exact fun e => h3 e.symm⟩
    obtain ⟨u, h1, h2⟩ := ih
    have := k' u h1 h2; subst this
    obtain ⟨e, he, e2, e1⟩ := hb u h1
    have h3 : s.testBit e.1 = true := by
      cases hs : s.testBit e.1 with
      | true => rfl
      | false => have := Peel.closed hd hp e he hs; rw [e2, h2] at this; exact absurd this (by simp)
    have := k' _ e1 h3
    have := hf e he this
    rw [e2, h2] at this; exact absurd this (by simp)
theorem Peel.none {n : Nat} {ds : Ed} (hd : InR n ds) (h : Peel n ds 0) {S : Nat} (hS : S < 2 ^ n) (hb : ∀ v, S.testBit v = true → ∃ e ∈ ds, e.2 = v ∧ S.testBit e.1 = true) : S = 0 :=
  Classical.byContradiction fun h0 => by
    obtain ⟨v, _, h2⟩ := Peel.meets hd hS h0 hb h
    simp at h2
theorem Peel.lt {n : Nat} {ds : Ed} {s : Nat} (h : Peel n ds s) : s < 2 ^ n := by
  induction h with
  | all => exact Nat.sub_lt (Nat.two_pow_pos n) (by omega)
  | go _ _ _ ih => exact andn_lt ih

/-- all edges turned -/
def rev (ds : Ed) : Ed := ds.map fun e => (e.2, e.1)
theorem mem_rev {ds : Ed} {a b : Nat} : (a, b) ∈ rev ds ↔ (b, a) ∈ ds := by
  simp only [rev, List.mem_map, Prod.mk.injEq]
  constructor
  · rintro ⟨⟨x, y⟩, h, rfl, rfl⟩; exact h
  · intro h; exact ⟨(b, a), h, rfl, rfl⟩
theorem rev_rev (ds : Ed) : rev (rev ds) = ds := by simp [rev, Function.comp_def]
theorem InR.rev {n : Nat} {ds : Ed} (h : InR n ds) : InR n (rev ds) := fun e he => by
  obtain ⟨a, b⟩ := e
  have := h _ (mem_rev.mp he); exact ⟨this.2, this.1⟩

/-- no node of those left can go -/
def Stuck (ds : Ed) (s : Nat) : Prop := ∀ v, s.testBit v = true → ∃ e ∈ ds, e.1 = v ∧ s.testBit e.2 = true

/-- what is left is empty in one direction just if it is in the other one -/
theorem peel_turn {n : Nat} {ds : Ed} (hd : InR n ds) {s t : Nat} (hs : Peel n ds s) (ht : Peel n (rev ds) t) (kt : Stuck (rev ds) t) (h : s = 0) : t = 0 := by
  subst h
  apply Peel.none hd hs ht.lt
  intro v hv
  obtain ⟨⟨a, b⟩, he, e1, e2⟩ := kt v hv
  subst e1
  exact ⟨(b, a), mem_rev.mp he, rfl, e2⟩

/-- the reference's dropping of sinks -/
def dropV (rows : List Nat) (s v : Nat) : Nat := bif (rows.getD v 0 &&& s) == 0 then andn s (2 ^ v) else s
def dropS (rows : List Nat) : Nat → Nat → Nat
  | 0, s => s
  | n + 1, s => dropV rows (dropS rows n s) n
def dropN (n : Nat) (rows : List Nat) : Nat → Nat → Nat
  | 0, s => s
  | k + 1, s => dropN n rows k (dropS rows n s)
def plainF (n : Nat) (rows : List Nat) : Bool := dropN n rows n (2 ^ n - 1) == 0

theorem row_free {n : Nat} {ds : Ed} (hd : InR n ds) (s v : Nat) : ((rowsOf n ds).getD v 0 &&& s = 0) ↔ ∀ e ∈ ds, e.1 = v → s.testBit e.2 = false := by
  constructor
  · rintro h ⟨a, b⟩ he rfl
    have h1 := (rowsOf_bit hd a b).mpr he
    have h2 : ((rowsOf n ds).getD a 0 &&& s).testBit b = false := by rw [h]; simp
    rw [Nat.testBit_and, h1] at h2; simpa using h2
  · intro h
    apply eq_zero_of_bits; intro b
    rw [Nat.testBit_and]
    cases h1 : ((rowsOf n ds).getD v 0).testBit b with
    | false => rfl
    | true => have := h _ ((rowsOf_bit hd v b).mp h1) rfl; simpa using this

theorem andn_same {s v : Nat} (h : s.testBit v = false) : andn s (2 ^ v) = s := by
  apply Nat.eq_of_testBit_eq; intro i
  rw [andn_bit, Nat.testBit_two_pow]
  by_cases e : v = i
  · subst e; simp [h]
  · simp [e]
theorem dropV_peel {n : Nat} {ds : Ed} (hd : InR n ds) {s : Nat} (h : Peel n ds s) (v : Nat) : Peel n ds (dropV (rowsOf n ds) s v) := by
  unfold dropV
  cases hc : ((rowsOf n ds).getD v 0 &&& s) == 0 with
  | false => exact h
  | true =>
    simp only [cond_true]
    cases hv : s.testBit v with
    | false => rw [andn_same hv]; exact h
    | true => exact Peel.go h hv ((row_free hd s v).mp (by simpa using hc))
theorem dropS_peel {n : Nat} {ds : Ed} (hd : InR n ds) (k : Nat) {s : Nat} (h : Peel n ds s) : Peel n ds (dropS (rowsOf n ds) k s) := by
  induction k with
  | zero => exact h
  | succ k ih => exact dropV_peel hd ih k
theorem dropN_peel {n : Nat} {ds : Ed} (hd : InR n ds) (k : Nat) : ∀ {s : Nat}, Peel n ds s → Peel n ds (dropN n (rowsOf n ds) k s) := by
  induction k with
  | zero => intro s h; exact h
  | succ k ih => intro s h; exact ih (dropS_peel hd n h)
theorem andn_sub (s t : Nat) : Sub (andn s t) s := fun b h => by rw [andn_bit] at h; simp at h; exact h.1
theorem dropV_sub (rows : List Nat) (s v : Nat) : Sub (dropV rows s v) s := by
  unfold dropV
  cases (rows.getD v 0 &&& s) == 0
  · exact Sub.refl _
  · exact andn_sub _ _
theorem dropS_sub (rows : List Nat) (k s : Nat) : Sub (dropS rows k s) s := by
  induction k with
  | zero => exact Sub.refl _
  | succ k ih => exact (dropV_sub _ _ _).trans ih
/-- a round that drops none: stuck -/
theorem dropS_stuck {n : Nat} {ds : Ed} (hd : InR n ds) {s : Nat} : ∀ (k : Nat), dropS (rowsOf n ds) k s = s → ∀ v, v < k → s.testBit v = true → ∃ e ∈ ds, e.1 = v ∧ s.testBit e.2 = true := by
  intro k
  induction k with
  | zero => intro _ v hv; omega
  | succ k ih =>
    intro h v hv hs
    have h1 : dropS (rowsOf n ds) k s = s := by
      apply Sub.antisymm (dropS_sub _ _ _)
      have h2 := dropV_sub (rowsOf n ds) (dropS (rowsOf n ds) k s) k
      rw [show dropV (rowsOf n ds) (dropS (rowsOf n ds) k s) k = s from h] at h2
      exact h2
    by_cases e : v < k
    · exact ih h1 v e hs
    · have : v = k := by omega
      subst this
      rw [dropS, h1] at h
      unfold dropV at h
      apply Classical.byContradiction
      intro k2
      have hf : (rowsOf n ds).getD v 0 &&& s = 0 := (row_free hd s v).mpr fun e he e1 => by
        cases hb : s.testBit e.2 with
        | false => rfl
        | true => exact absurd ⟨e, he, e1, hb⟩ k2
      rw [hf] at h
      simp only [beq_self_eq_true, cond_true] at h
      have := congrArg (fun x => x.testBit v) h
      simp only [andn_bit, hs, Nat.testBit_two_pow_self] at this
      simp at this
theorem dropN_stuck {n : Nat} (hn : n ≤ 5) {ds : Ed} (hd : InR n ds) : ∀ (k s : Nat), s < 2 ^ n → pc5 s ≤ k → Stuck ds (dropN n (rowsOf n ds) k s) := by
  intro k
  have z : ∀ s, s < 2 ^ n → pc5 s = 0 → s = 0 := fun s h => (show ∀ s, s < 32 → pc5 s = 0 → s = 0 by decide) s (pow5 hn h)
  induction k with
  | zero =>
    intro s h hp v hv
    have := z s h (by omega); subst this
    simp [dropN] at hv
  | succ k ih =>
    intro s h hp
    by_cases e : dropS (rowsOf n ds) n s = s
    · have : ∀ m, dropN n (rowsOf n ds) m s = s := by
        intro m; induction m with
        | zero => rfl
        | succ m ihm => rw [dropN, e]; exact ihm
      rw [this]
      intro v hv
      exact dropS_stuck hd n e v (bit_lt h hv) hv
    · have hl : dropS (rowsOf n ds) n s < 2 ^ n := lt_two_pow_of_bits fun b hb => bit_lt h (dropS_sub _ _ _ b hb)
      have := pc5_lt _ (pow5 hn hl) _ (pow5 hn h) (dropS_sub _ _ _).and e
      exact ih _ hl (by omega)

/-- the program's order: the least node to which no edge leads from those not done -/
def pickF (n : Nat) (before : List Nat) (done : Nat) : Option Nat :=
  (List.range n).find? fun v => !done.testBit v && (andn (before.getD v 0) done == 0)
def sortF (n : Nat) (before : List Nat) : Nat → Nat → List Nat
  | 0, _ => []
  | k + 1, done => match pickF n before done with
    | none => []
    | some v => v :: sortF n before k (done ||| 2 ^ v)

theorem pc5_add : ∀ s, s < 32 → ∀ v, v < 5 → s.testBit v = false → pc5 (s ||| 2 ^ v) = pc5 s + 1 := by decide +kernel
theorem pc5_full : ∀ n, n < 6 → ∀ s, s < 2 ^ n → pc5 s = n → s = 2 ^ n - 1 := by decide +kernel

theorem sortF_spec {n : Nat} (hn : n ≤ 5) {ds : Ed} (hd : InR n ds) : ∀ (k done : Nat), done < 2 ^ n → Peel n ds (andn (2 ^ n - 1) done) → n < pc5 done + k →
    ∃ t, Peel n ds t ∧ Stuck ds t ∧ pc5 done + (sortF n (rowsOf n ds) k done).length = pc5 (andn (2 ^ n - 1) t) := by
  intro k
  induction k with
  | zero =>
    intro done h _ hp
    have := pc5_le_n n (by omega) done h; omega
  | succ k ih =>
    intro done h hpeel hp
    have hcc : andn (2 ^ n - 1) (andn (2 ^ n - 1) done) = done := by
      apply Nat.eq_of_testBit_eq; intro i
      rw [andn_bit, andn_bit, full_bit]
      by_cases hi : i < n
      · simp [hi]
      · simp [hi, Nat.testBit_lt_two_pow (Nat.lt_of_lt_of_le h (Nat.pow_le_pow_right (n := 2) (by omega) (Nat.le_of_not_lt hi)))]
    cases hpick : pickF n (rowsOf n ds) done with
    | none =>
      refine ⟨andn (2 ^ n - 1) done, hpeel, ?_, by rw [sortF, hpick, hcc]; rfl⟩
      intro v hv
      rw [andn_bit, full_bit] at hv
      simp only [Bool.and_eq_true, decide_eq_true_eq, Bool.not_eq_true'] at hv
      have := List.find?_eq_none.mp hpick v (List.mem_range.mpr hv.1)
      simp only [hv.2, Bool.not_false, Bool.true_and, beq_iff_eq] at this
      obtain ⟨b, hb⟩ := exists_bit this
      rw [andn_bit] at hb; simp only [Bool.and_eq_true, Bool.not_eq_true'] at hb
      have he := (rowsOf_bit hd v b).mp hb.1
      exact ⟨(v, b), he, rfl, by rw [andn_bit, full_bit, hb.2]; simpa using (hd _ he).2⟩
    | some v =>
      have h1 := List.find?_some hpick
      have h2 := List.mem_range.mp (List.mem_of_find?_eq_some hpick)
      simp only [Bool.and_eq_true, Bool.not_eq_true', beq_iff_eq] at h1
      have hlt : done ||| 2 ^ v < 2 ^ n := Nat.or_lt_two_pow h (Nat.pow_lt_pow_right (by omega) h2)
      have hpc := pc5_add done (pow5 hn h) v (by omega) h1.1
      have heq : andn (2 ^ n - 1) (done ||| 2 ^ v) = andn (andn (2 ^ n - 1) done) (2 ^ v) := by
        apply Nat.eq_of_testBit_eq; intro i
        rw [andn_bit, andn_bit, andn_bit, Nat.testBit_or]
        cases (2 ^ n - 1).testBit i <;> cases done.testBit i <;> simp
      have hpeel2 : Peel n ds (andn (2 ^ n - 1) (done ||| 2 ^ v)) := by
        rw [heq]
        refine Peel.go hpeel (by rw [andn_bit, full_bit, h1.1]; simpa using h2) ?_
        rintro ⟨a, b⟩ he rfl
        have hb := (rowsOf_bit hd a b).mpr he
        have : (andn ((rowsOf n ds).getD a 0) done).testBit b = false := by rw [h1.2]; simp
        rw [andn_bit, hb] at this
        rw [andn_bit]; simp at this ⊢; simp [this]
      obtain ⟨t, a1, a2, a3⟩ := ih _ hlt hpeel2 (by omega)
      refine ⟨t, a1, a2, ?_⟩
      rw [← a3, hpc, sortF, hpick]; simp; omega

/-- the program's test is the reference's -/
theorem plain_eq {n : Nat} (hn : n ≤ 5) {ds : Ed} (hd : InR n ds) (k : Nat) (hk : n < k) :
    ((sortF n (rowsOf n (rev ds)) k 0).length = n) ↔ plainF n (rowsOf n ds) = true := by
  have hfull : 2 ^ n - 1 < 2 ^ n := Nat.sub_lt (Nat.two_pow_pos n) (by omega)
  have a0 : andn (2 ^ n - 1) 0 = 2 ^ n - 1 := by apply Nat.eq_of_testBit_eq; intro i; rw [andn_bit]; simp
  obtain ⟨t, t1, t2, t3⟩ := sortF_spec hn hd.rev k 0 (Nat.two_pow_pos n) (by rw [a0]; exact Peel.all) (by omega)
  have d1 : Peel n ds (dropN n (rowsOf n ds) n (2 ^ n - 1)) := dropN_peel hd n Peel.all
  have d2 := dropN_stuck hn hd n (2 ^ n - 1) hfull (pc5_le_n n (by omega) _ hfull)
  have p0 : pc5 0 = 0 := rfl
  rw [p0, Nat.zero_add] at t3
  have key : (sortF n (rowsOf n (rev ds)) k 0).length = n ↔ t = 0 := by
    rw [t3]
    constructor
    · intro h
      have := pc5_full n (by omega) _ (andn_lt hfull) h
      apply eq_zero_of_bits; intro i
      cases hi : t.testBit i with
      | false => rfl
      | true =>
        have hin := bit_lt t1.lt hi
        have := congrArg (fun x => x.testBit i) this
        simp only [andn_bit, full_bit, hi] at this; simp [hin] at this
    · rintro rfl; rw [a0]
      exact (show ∀ n, n < 6 → pc5 (2 ^ n - 1) = n by decide) n (by omega)
  rw [key, plainF, beq_iff_eq]
  constructor
  · intro h
    have := peel_turn hd.rev t1 (by rw [rev_rev]; exact d1) (by rw [rev_rev]; exact d2) h
    exact this
  · intro h
    exact peel_turn hd d1 t1 t2 h
end Go.Proofs.Ytjhedhpippppeaa.Gw
end
section
namespace Go.Proofs.Ytjhedhpippppeaa.Gw
/-! reach turned -/
theorem close_closed {n : Nat} (hn : n ≤ 5) {ds : Ed} (hd : InR n ds) {v : Nat} (hv : v < n) : Closed ds (close (rowsOf n ds) (2 ^ v)) := by
  have hlt : 2 ^ v < 2 ^ n := Nat.pow_lt_pow_right (by omega) hv
  exact (step_fix hd _).mp (close_fix (fun r h => pow5 hn (rowsOf_lt hd r h)) (pow5 hn hlt) (Nat.le_of_eq (pc5_pow v (by omega)).symm))
theorem close_self (rows : List Nat) (v : Nat) : (close rows (2 ^ v)).testBit v = true := sub_close rows _ v Nat.testBit_two_pow_self
theorem close_lt_n {n : Nat} (hn : n ≤ 5) {ds : Ed} (hd : InR n ds) {v : Nat} (hv : v < n) : close (rowsOf n ds) (2 ^ v) < 2 ^ n := by
  have hlt : 2 ^ v < 2 ^ n := Nat.pow_lt_pow_right (by omega) hv
  rw [← lReach_eq hn hd hv]
  have : ∀ k s, s < 2 ^ n → lReach k ds s < 2 ^ n := by
    intro k; induction k with
    | zero => intro s h; exact h
    | succ k ih => intro s h; exact ih _ (lRound_lt ds hd s h)
  exact this _ _ hlt
theorem pow_sub {v t : Nat} (h : t.testBit v = true) : Sub (2 ^ v) t := fun b hb => by
  rw [Nat.testBit_two_pow] at hb; have : v = b := by simpa using hb
  subst this; exact h
theorem close_le {n : Nat} {ds : Ed} (hd : InR n ds) {v t : Nat} (h : t.testBit v = true) (ht : Closed ds t) : Sub (close (rowsOf n ds) (2 ^ v)) t :=
  close_sub (pow_sub h) ((step_fix hd _).mpr ht)
theorem close_turn1 {n : Nat} (hn : n ≤ 5) {ds : Ed} (hd : InR n ds) {u v : Nat} (hu : u < n) (hv : v < n)
    (h : (close (rowsOf n (rev ds)) (2 ^ u)).testBit v = true) : (close (rowsOf n ds) (2 ^ v)).testBit u = true := by
  cases h1 : (close (rowsOf n ds) (2 ^ v)).testBit u with
  | true => rfl
  | false =>
    have hc := close_closed hn hd hv
    have : Closed (rev ds) (andn (2 ^ n - 1) (close (rowsOf n ds) (2 ^ v))) := by
      rintro ⟨a, b⟩ he ha
      have he' := mem_rev.mp he
      have hb := (hd _ he').1
      rw [andn_bit, full_bit] at ha ⊢
      simp only [Bool.and_eq_true, decide_eq_true_eq, Bool.not_eq_true'] at ha ⊢
      refine ⟨hb, ?_⟩
      cases h2 : (close (rowsOf n ds) (2 ^ v)).testBit b with
      | false => rfl
      | true => have := hc _ he' h2; rw [ha.2] at this; exact absurd this (by simp)
    have k := close_le hd.rev (v := u) (t := andn (2 ^ n - 1) (close (rowsOf n ds) (2 ^ v))) (by rw [andn_bit, full_bit, h1]; simpa using hu) this v h
    rw [andn_bit, close_self] at k; simp at k
theorem close_turn {n : Nat} (hn : n ≤ 5) {ds : Ed} (hd : InR n ds) {u v : Nat} (hu : u < n) (hv : v < n) :
    (close (rowsOf n (rev ds)) (2 ^ u)).testBit v = (close (rowsOf n ds) (2 ^ v)).testBit u := by
  rw [Bool.eq_iff_iff]
  constructor
  · exact close_turn1 hn hd hu hv
  · intro h
    have := close_turn1 hn hd.rev hv hu (by rw [rev_rev]; exact h)
    exact this
/-- ways go on -/
theorem close_trans {n : Nat} (hn : n ≤ 5) {ds : Ed} (hd : InR n ds) {u v : Nat} (hv : v < n) (h : (close (rowsOf n ds) (2 ^ v)).testBit u = true) :
    Sub (close (rowsOf n ds) (2 ^ u)) (close (rowsOf n ds) (2 ^ v)) := close_le hd h (close_closed hn hd hv)
theorem close_edge {n : Nat} (hn : n ≤ 5) {ds : Ed} (hd : InR n ds) {e : Nat × Nat} (he : e ∈ ds) : (close (rowsOf n ds) (2 ^ e.1)).testBit e.2 = true :=
  close_closed hn hd (hd e he).1 e he (close_self _ _)

/-! sinks -/
def sinksL : List Nat → Nat → Nat → Nat
  | [], _, s => s
  | r :: rs, v, s => sinksL rs (v + 1) (bif r == 0 then s ||| 2 ^ v else s)
def sinksF (rows : List Nat) : Nat := sinksL rows 0 0
theorem sinksL_bit (rows : List Nat) : ∀ (v s b : Nat), (sinksL rows v s).testBit b = true ↔ (s.testBit b = true ∨ ∃ i, v + i = b ∧ rows[i]? = some 0) := by
  induction rows with
  | nil => intro v s b; simp [sinksL]
  | cons r rs ih =>
    intro v s b
    rw [sinksL, ih]
    constructor
    · rintro (h | ⟨i, h1, h2⟩)
      · cases hr : r == 0 with
        | false => rw [hr] at h; exact .inl h
        | true =>
          rw [hr] at h; simp only [cond_true, Nat.testBit_or, Bool.or_eq_true, Nat.testBit_two_pow, decide_eq_true_eq] at h
          rcases h with h | h
          · exact .inl h
          · exact .inr ⟨0, h, by simpa using hr⟩
      · exact .inr ⟨i + 1, by omega, by simpa using h2⟩
    · rintro (h | ⟨i, h1, h2⟩)
      · left; cases r == 0 <;> simp [h]
      · cases i with
        | zero => left; simp at h2; subst h2; subst h1; simp [Nat.testBit_or]
        | succ i => exact .inr ⟨i, by omega, by simpa using h2⟩
theorem sinksF_bit (rows : List Nat) (b : Nat) : (sinksF rows).testBit b = true ↔ rows[b]? = some 0 := by
  rw [sinksF, sinksL_bit]; simp

/-! degrees -/
def addO (l : List Nat) (e : Nat × Nat) : List Nat := l.set e.1 (l.getD e.1 0 + 1)
def outsOf (n : Nat) (ds : Ed) : List Nat := ds.foldl addO (List.replicate n 0)
theorem addO_length (l : List Nat) (e : Nat × Nat) : (addO l e).length = l.length := by simp [addO]
theorem addO_get (l : List Nat) (e : Nat × Nat) (he : e.1 < l.length) (u : Nat) : (addO l e).getD u 0 = l.getD u 0 + (if u = e.1 then 1 else 0) := by
  unfold addO
  by_cases h : u = e.1
  · subst h; rw [List.getD_eq_getElem?_getD, List.getElem?_set_self he]; simp
  · have h' : ¬ e.1 = u := fun k => h k.symm
    simp [List.getD_eq_getElem?_getD, h, h']
theorem foldO_length (ds : Ed) : ∀ l : List Nat, (ds.foldl addO l).length = l.length := by
  induction ds with
  | nil => intro l; rfl
  | cons e ds ih => intro l; rw [List.foldl_cons, ih, addO_length]
theorem outsOf_length (n : Nat) (ds : Ed) : (outsOf n ds).length = n := by simp [outsOf, foldO_length]
theorem foldO_get (ds : Ed) : ∀ l : List Nat, InR l.length ds → ∀ u, (ds.foldl addO l).getD u 0 = l.getD u 0 + ds.countP (fun e => e.1 == u) := by
  induction ds with
  | nil => intro l _ u; simp
  | cons e ds ih =>
    intro l h u
    rw [List.foldl_cons, ih _ (by rw [addO_length]; exact fun x hx => h x (by simp [hx])), addO_get _ _ (h e (by simp)).1, List.countP_cons]
    by_cases k : u = e.1
    · subst k; simp; omega
    · have k' : ¬ e.1 = u := fun h => k h.symm
      simp [k, k']
theorem repl_getD (n u : Nat) : (List.replicate n 0).getD u 0 = 0 := by
  simp [List.getD_eq_getElem?_getD, List.getElem?_replicate]; split <;> rfl
theorem outsOf_get {n : Nat} {ds : Ed} (h : InR n ds) (u : Nat) : (outsOf n ds).getD u 0 = ds.countP (fun e => e.1 == u) := by
  rw [outsOf, foldO_get ds _ (by simpa using h), repl_getD, Nat.zero_add]
theorem fold_pc {n : Nat} (hn : n ≤ 5) (ds : Ed) : ∀ (rows : List Nat), rows.length = n → InR n ds → (∀ r ∈ rows, r < 2 ^ n) → ds.Nodup →
    (∀ e ∈ ds, (rows.getD e.1 0).testBit e.2 = false) → ∀ u, pc5 ((ds.foldl addE rows).getD u 0) = pc5 (rows.getD u 0) + ds.countP (fun e => e.1 == u) := by
  induction ds with
  | nil => intro rows _ _ _ _ _ u; simp
  | cons e ds ih =>
    intro rows hl hd hr hnd hf u
    have he := hd e (by simp)
    have hel : e.1 < rows.length := by omega
    have hrow : rows.getD e.1 0 < 2 ^ n := by
      rw [List.getD_eq_getElem?_getD, List.getElem?_eq_getElem hel]; exact hr _ (List.getElem_mem hel)
    have hlt : rows.getD e.1 0 ||| 2 ^ e.2 < 2 ^ n := Nat.or_lt_two_pow hrow (Nat.pow_lt_pow_right (by omega) he.2)
    rw [List.foldl_cons, ih (addE rows e) (by rw [addE_length]; exact hl) (fun x hx => hd x (by simp [hx])) ?_ (List.nodup_cons.mp hnd).2 ?_ u, List.countP_cons]
    · by_cases k : u = e.1
      · subst k
        have := pc5_add _ (pow5 hn hrow) e.2 (by omega) (hf e (by simp))
        have h2 : (addE rows e).getD e.1 0 = rows.getD e.1 0 ||| 2 ^ e.2 := by
          rw [addE, List.getD_eq_getElem?_getD, List.getElem?_set_self hel]; rfl
        rw [h2, this]; simp; omega
      · have k' : ¬ e.1 = u := fun h => k h.symm
        have h2 : (addE rows e).getD u 0 = rows.getD u 0 := by simp [addE, List.getD_eq_getElem?_getD, k']
        rw [h2]; simp [k']
    · intro r hr2
      rcases List.mem_or_eq_of_mem_set hr2 with h | h
      · exact hr r h
      · rw [h]; exact hlt
    · intro x hx
      have h1 := hf x (by simp [hx])
      cases h2 : ((addE rows e).getD x.1 0).testBit x.2 with
      | false => rfl
      | true =>
        rcases (addE_bit rows e hel x.1 x.2).mp h2 with h3 | h3
        · rw [h1] at h3; exact absurd h3 (by simp)
        · have : x = e := Prod.ext h3.1 h3.2
          subst this; exact absurd hx (List.nodup_cons.mp hnd).1
/-- the degree is the size of the row -/
theorem pc_row {n : Nat} (hn : n ≤ 5) {ds : Ed} (hd : InR n ds) (hnd : ds.Nodup) (u : Nat) : pc5 ((rowsOf n ds).getD u 0) = (outsOf n ds).getD u 0 := by
  rw [outsOf_get hd, rowsOf, fold_pc hn ds _ (by simp) hd (fun r h => by rw [(List.mem_replicate.mp h).2]; exact Nat.two_pow_pos n) hnd (fun e _ => by rw [repl_getD]; simp) u, repl_getD]
  simp [pc5]
theorem pc5_zero : ∀ s, s < 32 → (pc5 s = 0 ↔ s = 0) := by decide
end Go.Proofs.Ytjhedhpippppeaa.Gw
end
section
namespace Go.Proofs.Ytjhedhpippppeaa.Gw
/-! parts, blocks, full and strong directions -/
def sym : Ed → Ed
  | [] => []
  | e :: es => e :: (e.2, e.1) :: sym es
def sel : Ed → Nat → Ed
  | [], _ => []
  | e :: es, s => bif s.testBit 0 then e :: sel es (s / 2) else sel es (s / 2)
def partsStep (rows : List Nat) (st : Nat × Nat) (v : Nat) : Nat × Nat := bif st.2.testBit v then st else (st.1 + 1, st.2 ||| close rows (2 ^ v))
def partsF (n : Nat) (l : Ed) : Nat := ((List.range n).foldl (partsStep (rowsOf n (sym l))) (0, 0)).1
def ufStep (st : Nat × List Nat) (e : Nat × Nat) : Nat × List Nat :=
  bif st.2.getD e.1 0 == st.2.getD e.2 0 then st else (st.1 - 1, st.2.map fun x => bif x == st.2.getD e.2 0 then st.2.getD e.1 0 else x)
def ufF (n : Nat) (l : Ed) : Nat := (l.foldl ufStep (n, List.range n)).1

theorem sel_sub : ∀ (es : Ed) (s : Nat), (sel es s).Sublist es
  | [], _ => List.Sublist.refl _
  | e :: es, s => by
      rw [sel]
      cases s.testBit 0
      · exact (sel_sub es _).cons _
      · exact (sel_sub es _).cons_cons _

/-- all pairs of nodes, in order -/
def pairs : Nat → Ed
  | 2 => [(0, 1)]
  | 3 => [(0, 1), (0, 2), (1, 2)]
  | 4 => [(0, 1), (0, 2), (0, 3), (1, 2), (1, 3), (2, 3)]
  | 5 => [(0, 1), (0, 2), (0, 3), (0, 4), (1, 2), (1, 3), (1, 4), (2, 3), (2, 4), (3, 4)]
  | _ => []

def chkParts (n : Nat) (l : Ed) : Bool := partsF n l == ufF n l && (Nat.ble 1 (ufF n l) && (Nat.ble (ufF n l) n && Nat.ble n (ufF n l + l.length)))
theorem parts1 : allSub (pairs 1) (chkParts 1) = true := by decide +kernel
theorem parts2 : allSub (pairs 2) (chkParts 2) = true := by decide +kernel
theorem parts3 : allSub (pairs 3) (chkParts 3) = true := by decide +kernel
theorem parts4 : allSub (pairs 4) (chkParts 4) = true := by decide +kernel
theorem parts5 : allSub (pairs 5) (chkParts 5) = true := by decide +kernel

end Go.Proofs.Ytjhedhpippppeaa.Gw
end
section
namespace Go.Proofs.Ytjhedhpippppeaa.Gw
/-! blocks -/
def blk (n : Nat) (ds : Ed) (v : Nat) : Nat := close (rowsOf n ds) (2 ^ v) &&& close (rowsOf n (rev ds)) (2 ^ v)
theorem blk_bit {n : Nat} (hn : n ≤ 5) {ds : Ed} (hd : InR n ds) {u v : Nat} (hu : u < n) (hv : v < n) :
    (blk n ds v).testBit u = ((close (rowsOf n ds) (2 ^ v)).testBit u && (close (rowsOf n ds) (2 ^ u)).testBit v) := by
  rw [blk, Nat.testBit_and, close_turn hn hd hv hu]
theorem blk_lt {n : Nat} (hn : n ≤ 5) {ds : Ed} (hd : InR n ds) {v : Nat} (hv : v < n) : blk n ds v < 2 ^ n :=
  Nat.and_lt_two_pow _ (close_lt_n hn hd.rev hv)
theorem blk_self (n : Nat) (ds : Ed) (v : Nat) : (blk n ds v).testBit v = true := by rw [blk, Nat.testBit_and, close_self, close_self]; rfl
theorem blk_symm {n : Nat} (hn : n ≤ 5) {ds : Ed} (hd : InR n ds) {u v : Nat} (hu : u < n) (hv : v < n) : (blk n ds v).testBit u = (blk n ds u).testBit v := by
  rw [blk_bit hn hd hu hv, blk_bit hn hd hv hu, Bool.and_comm]
theorem blk_trans {n : Nat} (hn : n ≤ 5) {ds : Ed} (hd : InR n ds) {u v w : Nat} (hu : u < n) (hv : v < n) (hw : w < n)
    (h1 : (blk n ds u).testBit v = true) (h2 : (blk n ds v).testBit w = true) : (blk n ds u).testBit w = true := by
  rw [blk_bit hn hd hv hu] at h1; rw [blk_bit hn hd hw hv] at h2; rw [blk_bit hn hd hw hu]
  simp only [Bool.and_eq_true] at *
  exact ⟨close_trans hn hd hu h1.1 w h2.1, close_trans hn hd hw h2.2 u h1.2⟩
theorem blk_eq {n : Nat} (hn : n ≤ 5) {ds : Ed} (hd : InR n ds) {u v : Nat} (hu : u < n) (hv : v < n)
    (h1 : (blk n ds u).testBit v = true) : blk n ds u = blk n ds v := by
  apply Sub.antisymm
  · intro w hw
    have hwn := bit_lt (blk_lt hn hd hu) hw
    exact blk_trans hn hd hv hu hwn (by rw [blk_symm hn hd hu hv]; exact h1) hw
  · intro w hw
    have hwn := bit_lt (blk_lt hn hd hv) hw
    exact blk_trans hn hd hu hv hwn h1 hw

def blkStep (f : Nat → Nat) (st : List Nat × Nat) (v : Nat) : List Nat × Nat := bif st.2.testBit v then st else (st.1 ++ [f v], st.2 ||| f v)
def blocksUpto (f : Nat → Nat) : Nat → List Nat × Nat
  | 0 => ([], 0)
  | v + 1 => blkStep f (blocksUpto f v) v
def blocksF (n : Nat) (ds : Ed) : List Nat := (blocksUpto (blk n ds) n).1
/-- the reference's blocks -/
def refBlocks (f : Nat → Nat) : Nat → List Nat
  | 0 => []
  | v + 1 => refBlocks f v ++ (bif (f v &&& (2 ^ v - 1)) == 0 then [f v] else [])

theorem seen_bit {n : Nat} {ds : Ed} : ∀ k, ∀ u, (blocksUpto (blk n ds) k).2.testBit u = true → ∃ w, w < k ∧ (blk n ds w).testBit u = true := by
  intro k
  induction k with
  | zero => intro u h; simp [blocksUpto] at h
  | succ k ih =>
    intro u h
    rw [blocksUpto, blkStep] at h
    cases hs : (blocksUpto (blk n ds) k).2.testBit k with
    | true => rw [hs] at h; obtain ⟨w, h1, h2⟩ := ih u h; exact ⟨w, by omega, h2⟩
    | false =>
      rw [hs] at h; simp only [cond_false, Nat.testBit_or, Bool.or_eq_true] at h
      rcases h with h | h
      · obtain ⟨w, h1, h2⟩ := ih u h; exact ⟨w, by omega, h2⟩
      · exact ⟨k, by omega, h⟩
theorem seen_all {n : Nat} (hn : n ≤ 5) {ds : Ed} (hd : InR n ds) : ∀ k, k ≤ n → ∀ w, w < k → Sub (blk n ds w) (blocksUpto (blk n ds) k).2 := by
  intro k
  induction k with
  | zero => intro _ w h; omega
  | succ k ih =>
    intro hk w hw u hu
    have hun := bit_lt (blk_lt hn hd (show w < n by omega)) hu
    rw [blocksUpto, blkStep]
    cases hs : (blocksUpto (blk n ds) k).2.testBit k with
    | true =>
      simp only [cond_true]
      by_cases e : w < k
      · exact ih (by omega) w e u hu
      · have : w = k := by omega
        subst this
        obtain ⟨x, h1, h2⟩ := seen_bit w w hs
        have : (blk n ds x).testBit u = true := blk_trans hn hd (by omega) (by omega) hun h2 hu
        exact ih (by omega) x h1 u this
    | false =>
      simp only [cond_false, Nat.testBit_or, Bool.or_eq_true]
      by_cases e : w < k
      · exact .inl (ih (by omega) w e u hu)
      · have : w = k := by omega
        subst this; exact .inr hu
/-- a node was seen just if a lesser one is in its block -/
theorem seen_iff {n : Nat} (hn : n ≤ 5) {ds : Ed} (hd : InR n ds) {k : Nat} (hk : k < n) :
    (blocksUpto (blk n ds) k).2.testBit k = !((blk n ds k &&& (2 ^ k - 1)) == 0) := by
  rw [Bool.eq_iff_iff]
  constructor
  · intro h
    obtain ⟨w, h1, h2⟩ := seen_bit k k h
    simp only [Bool.not_eq_true', beq_eq_false_iff_ne]
    intro h0
    have : (blk n ds k &&& (2 ^ k - 1)).testBit w = true := by
      rw [Nat.testBit_and, full_bit, ← blk_symm hn hd hk (by omega), h2]; simpa using h1
    rw [h0] at this; simp at this
  · intro h
    simp only [Bool.not_eq_true', beq_eq_false_iff_ne] at h
    obtain ⟨w, hw⟩ := exists_bit h
    rw [Nat.testBit_and, full_bit] at hw
    simp only [Bool.and_eq_true, decide_eq_true_eq] at hw
    exact seen_all hn hd k (by omega) w hw.2 k (by rw [← blk_symm hn hd (by omega) hk]; exact hw.1)
theorem blocks_ref {n : Nat} (hn : n ≤ 5) {ds : Ed} (hd : InR n ds) : ∀ k, k ≤ n → (blocksUpto (blk n ds) k).1 = refBlocks (blk n ds) k := by
  intro k
  induction k with
  | zero => intro _; rfl
  | succ k ih =>
    intro hk
    rw [blocksUpto, blkStep, refBlocks, ← ih (by omega), seen_iff hn hd (by omega)]
    cases (blk n ds k &&& (2 ^ k - 1)) == 0 <;> simp
/-- one block just if the first one has all -/
theorem blocks_ne {f : Nat → Nat} : ∀ k, 0 < k → 1 ≤ (blocksUpto f k).1.length := by
  intro k hk
  induction k with
  | zero => omega
  | succ k ih =>
    rw [blocksUpto, blkStep]
    by_cases h : k = 0
    · subst h; simp [blocksUpto]
    · have := ih (by omega)
      cases (blocksUpto f k).2.testBit k
      · simp
      · exact this
theorem one_block {n : Nat} (hn : n ≤ 5) (h0 : 0 < n) {ds : Ed} (hd : InR n ds) : (blocksF n ds).length = 1 ↔ blk n ds 0 = 2 ^ n - 1 := by
  have h1 : blocksUpto (blk n ds) 1 = ([blk n ds 0], blk n ds 0) := by
    simp [blocksUpto, blkStep]
  have up : ∀ k, 1 ≤ k → k ≤ n → ((blocksUpto (blk n ds) k).1.length = 1 ↔ ∀ v, v < k → (blk n ds 0).testBit v = true) := by
    intro k hk
    induction k with
    | zero => omega
    | succ k ih =>
      intro hkn
      by_cases hk0 : k = 0
      · subst hk0
        rw [h1]; simp only [List.length_singleton, true_iff]
        intro v hv; have : v = 0 := by omega
        subst this; exact blk_self _ _ _
      · have ih' := ih (by omega) (by omega)
        have hne := blocks_ne (f := blk n ds) k (by omega)
        rw [blocksUpto, blkStep]
        cases hs : (blocksUpto (blk n ds) k).2.testBit k with
        | true =>
          simp only [cond_true]
          rw [ih']
          constructor
          · intro h v hv
            by_cases e : v < k
            · exact h v e
            · have : v = k := by omega
              subst this
              obtain ⟨w, h2, h3⟩ := seen_bit v v hs
              exact blk_trans hn hd h0 (by omega) (by omega) (h w h2) h3
          · intro h v hv; exact h v (by omega)
        | false =>
          simp only [cond_false, List.length_append, List.length_singleton]
          constructor
          · intro h; omega
          · intro h
            have := seen_all hn hd k (by omega) 0 (by omega) k (h k (by omega))
            rw [hs] at this; exact absurd this (by simp)
  rw [blocksF, up n h0 (Nat.le_refl n)]
  constructor
  · intro h
    apply Nat.eq_of_testBit_eq; intro i
    rw [full_bit]
    by_cases hi : i < n
    · rw [h i hi]; simp [hi]
    · have := Nat.testBit_lt_two_pow (Nat.lt_of_lt_of_le (blk_lt hn hd h0) (Nat.pow_le_pow_right (n := 2) (by omega) (Nat.le_of_not_lt hi)))
      rw [this]; simp [hi]
  · intro h v hv
    rw [h, full_bit]; simpa using hv

/-! full directions -/
def fullF (n : Nat) (ds : Ed) : Bool := ds.all fun e => (close (rowsOf n ds) (2 ^ e.2)).testBit e.1
theorem full_blk {n : Nat} (hn : n ≤ 5) {ds : Ed} (hd : InR n ds) {e : Nat × Nat} (he : e ∈ ds) :
    (close (rowsOf n ds) (2 ^ e.2)).testBit e.1 = (blk n ds e.1).testBit e.2 := by
  have h := hd e he
  rw [blk_bit hn hd h.2 h.1, close_edge hn hd he]; rfl
end Go.Proofs.Ytjhedhpippppeaa.Gw
end
