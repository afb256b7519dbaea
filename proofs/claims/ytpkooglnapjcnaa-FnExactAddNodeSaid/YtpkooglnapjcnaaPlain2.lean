/- Plain data: lists that ascend; what a formula may read. No program here. -/
import Derived.Test.YtpkooglnapjcnaaPlain
namespace SG
set_option linter.unusedSimpArgs false
def Part.put (p : Part) (j : Nat) (x : Int) : Part := match j with
  | 0 => { p with kind := x }
  | 1 => { p with a := x }
  | 2 => { p with b := x }
  | 3 => { p with c := x }
  | _ => { p with n := x }
/-- the number at an index, 0 where there is none -/
def at0 (xs : List Int) (p : Nat) : Int := xs.getD p 0
theorem at0_eq {xs : List Int} {p : Nat} (h : p < xs.length) : xs[p] = at0 xs p := by simp [at0, List.getD_eq_getElem?_getD, h]
theorem at0_set (xs : List Int) (i p : Nat) (v : Int) : at0 (xs.set i v) p = if p = i ∧ i < xs.length then v else at0 xs p := by
  simp only [at0, List.getD_eq_getElem?_getD, List.getElem?_set]
  by_cases h : i = p
  · subst h
    by_cases hl : i < xs.length
    · simp [hl]
    · simp [hl]
  · simp [h, show ¬ p = i from fun e => h e.symm]
theorem at0_take {xs : List Int} {n p : Nat} (h : p < n) : at0 (xs.take n) p = at0 xs p := by
  simp [at0, List.getD_eq_getElem?_getD, List.getElem?_take, h]
theorem at0_drop (xs : List Int) (k p : Nat) : at0 (xs.drop k) p = at0 xs (k + p) := by simp [at0, List.getD_eq_getElem?_getD]
theorem mem_at0 {xs : List Int} {x : Int} : x ∈ xs ↔ ∃ p, p < xs.length ∧ at0 xs p = x := by
  rw [List.mem_iff_getElem]
  constructor
  · rintro ⟨p, h, e⟩; exact ⟨p, h, by rw [← at0_eq h, e]⟩
  · rintro ⟨p, h, e⟩; exact ⟨p, h, by rw [at0_eq h, e]⟩
/-- sorted up to a length -/
def Upto (n : Nat) (xs : List Int) : Prop := ∀ p q, p < q → q < n → at0 xs p ≤ at0 xs q
/-- the same numbers in another order -/
def SameM (ys xs : List Int) : Prop := ys.length = xs.length ∧ ∀ x, x ∈ ys ↔ x ∈ xs
theorem SameM.refl (xs : List Int) : SameM xs xs := ⟨rfl, fun _ => Iff.rfl⟩
theorem SameM.trans {a b c : List Int} (h : SameM a b) (h' : SameM b c) : SameM a c := ⟨h.1.trans h'.1, fun x => (h.2 x).trans (h'.2 x)⟩
theorem SameM.swap {xs : List Int} {i j : Nat} (hi : i < xs.length) (hj : j < xs.length) : SameM ((xs.set i (at0 xs j)).set j (at0 xs i)) xs := by
  refine ⟨by simp, fun x => ?_⟩
  simp only [mem_at0, List.length_set, at0_set]
  constructor
  · rintro ⟨p, hp, e⟩
    split at e
    · exact ⟨i, hi, e⟩
    · split at e
      · exact ⟨j, hj, e⟩
      · exact ⟨p, hp, e⟩
  · rintro ⟨p, hp, e⟩
    by_cases h1 : p = i
    · subst h1; exact ⟨j, hj, by simp [hj, e]⟩
    · by_cases h2 : p = j
      · subst h2
        refine ⟨i, hi, ?_⟩
        by_cases h3 : i = p
        · exact absurd h3.symm h1
        · simp [h3, hi, e]
      · exact ⟨p, hp, by simp [h1, h2, e]⟩
/-- one swap of the insertion sort -/
def Nearly (i j : Nat) (xs : List Int) : Prop := ∀ p q, p < q → q ≤ i → q ≠ j → at0 xs p ≤ at0 xs q
theorem Nearly.swap {xs : List Int} {i j : Nat} (h : Nearly i j xs) (h0 : 0 < j) (hji : j ≤ i) (hi : i < xs.length) (hlt : at0 xs j < at0 xs (j - 1)) : Nearly i (j - 1) ((xs.set j (at0 xs (j - 1))).set (j - 1) (at0 xs j)) := by
  intro p q hpq hq hqj
  simp only [at0_set, List.length_set]
  have a1 := h p q hpq hq
  have a2 := h p (j - 1)
  have a3 := h (j - 1) q
  have a4 := h p q
  by_cases e1 : q = j
  · subst e1
    by_cases e2 : p = q - 1
    · subst e2
      simp [show ¬ (q = q - 1) by omega, show q - 1 < xs.length by omega, show q < xs.length by omega]
      omega
    · have := a2 (by omega) (by omega) (by omega)
      simp [show ¬ (q = q - 1) by omega, show ¬ (p = q - 1) from e2, show ¬ p = q by omega, show q < xs.length by omega]
      exact this
  · have b1 := a1 e1
    by_cases e2 : p = j
    · subst e2
      have := a3 (by omega) hq e1
      simp [show ¬ (p = p - 1) by omega, show ¬ q = p - 1 from hqj, e1, show p < xs.length by omega]
      exact this
    · by_cases e3 : p = j - 1
      · subst e3
        simp [hqj, e1, show j - 1 < xs.length by omega]
        omega
      · simp [hqj, e1, e2, e3]
        exact b1
theorem Nearly.stop0 {xs : List Int} {i : Nat} (h : Nearly i 0 xs) : Upto (i + 1) xs := fun p q hpq hq => h p q hpq (by omega) (by omega)
theorem Nearly.stop {xs : List Int} {i j : Nat} (h : Nearly i j xs) (h0 : 0 < j) (hji : j ≤ i) (hge : ¬ at0 xs j < at0 xs (j - 1)) : Upto (i + 1) xs := by
  intro p q hpq hq
  by_cases e : q = j
  · subst e
    by_cases e2 : p = q - 1
    · subst e2; omega
    · have := h p (q - 1) (by omega) (by omega) (by omega)
      omega
  · exact h p q hpq (by omega) e
theorem Nearly.start {xs : List Int} {i : Nat} (h : Upto i xs) : Nearly i i xs := fun p q hpq hq hne => h p q hpq (by omega)

/-! strictly ascending -/
def Asc (xs : List Int) : Prop := List.Pairwise (· < ·) xs
theorem Asc.ext : ∀ {xs ys : List Int}, Asc xs → Asc ys → (∀ x, x ∈ xs ↔ x ∈ ys) → xs = ys := by
  intro xs
  induction xs with
  | nil =>
    intro ys _ _ h
    cases ys with
    | nil => rfl
    | cons y ys => have := (h y).2 (by simp); simp at this
  | cons x xs ih =>
    intro ys hx hy h
    cases ys with
    | nil => have := (h x).1 (by simp); simp at this
    | cons y ys =>
      have hx' := List.pairwise_cons.1 hx
      have hy' := List.pairwise_cons.1 hy
      have e : x = y := by
        have h1 := (h x).1 (by simp)
        have h2 := (h y).2 (by simp)
        rcases List.mem_cons.1 h1 with h1 | h1
        · exact h1
        · rcases List.mem_cons.1 h2 with h2 | h2
          · exact h2.symm
          · have := hx'.1 y h2; have := hy'.1 x h1; omega
      subst e
      congr 1
      refine ih hx'.2 hy'.2 fun z => ?_
      constructor
      · intro hz
        rcases List.mem_cons.1 ((h z).1 (by simp [hz])) with rfl | h'
        · exact absurd (hx'.1 _ hz) (by omega)
        · exact h'
      · intro hz
        rcases List.mem_cons.1 ((h z).2 (by simp [hz])) with rfl | h'
        · exact absurd (hy'.1 _ hz) (by omega)
        · exact h'
theorem asc_range (n : Nat) : Asc ((List.range n).map (fun (k : Nat) => (k : Int))) := by
  unfold Asc
  rw [List.pairwise_map]
  exact List.Pairwise.imp (by intro a b h; omega) List.pairwise_lt_range
theorem Asc.snoc {xs : List Int} {x : Int} (h : Asc xs) (hx : ∀ y ∈ xs, y < x) : Asc (xs ++ [x]) := by
  unfold Asc
  rw [List.pairwise_append]
  exact ⟨h, by simp, by simpa using hx⟩
/-- one step of taking out doubles: y up to k are the different ones of x up to m -/
def Comp (xs ys : List Int) (k m : Nat) : Prop := ys.length = xs.length ∧ k ≤ m ∧ Asc (ys.take k) ∧ (∀ x, x ∈ ys.take k ↔ x ∈ xs.take m) ∧ ∀ i, k ≤ i → at0 ys i = at0 xs i
theorem mem_take_at0 {xs : List Int} {m : Nat} {x : Int} : x ∈ xs.take m ↔ ∃ p, p < m ∧ p < xs.length ∧ at0 xs p = x := by
  rw [mem_at0]
  constructor
  · rintro ⟨p, hp, e⟩
    rw [List.length_take] at hp
    exact ⟨p, by omega, by omega, by rwa [at0_take (by omega)] at e⟩
  · rintro ⟨p, h1, h2, e⟩
    exact ⟨p, by rw [List.length_take]; omega, by rwa [at0_take h1]⟩
theorem Comp.skip {xs ys : List Int} {k m : Nat} (h : Comp xs ys k m) (hm0 : 0 < m) (hm : m < xs.length) (heq : at0 xs m = at0 xs (m - 1)) : Comp xs ys k (m + 1) := by
  obtain ⟨h1, h2, h3, h4, h5⟩ := h
  refine ⟨h1, by omega, h3, fun x => ?_, h5⟩
  rw [h4]
  simp only [mem_take_at0]
  constructor
  · rintro ⟨p, a, b, e⟩; exact ⟨p, by omega, b, e⟩
  · rintro ⟨p, a, b, e⟩
    by_cases hp : p = m
    · subst hp; exact ⟨p - 1, by omega, by omega, by rw [← heq]; exact e⟩
    · exact ⟨p, by omega, b, e⟩
theorem Comp.put {xs ys : List Int} {k m : Nat} (h : Comp xs ys k m) (hs : Upto xs.length xs) (hm0 : 0 < m) (hm : m < xs.length) (hne : at0 xs m ≠ at0 xs (m - 1)) : Comp xs (ys.set k (at0 xs m)) (k + 1) (m + 1) := by
  obtain ⟨h1, h2, h3, h4, h5⟩ := h
  have hk : k < ys.length := by omega
  have ht : (ys.set k (at0 xs m)).take (k + 1) = ys.take k ++ [at0 xs m] := by
    rw [List.take_succ_eq_append_getElem (by simpa using hk), List.take_set_of_le (Nat.le_refl _)]
    simp
  have hlt : ∀ y ∈ ys.take k, y < at0 xs m := by
    intro y hy
    obtain ⟨p, a, b, e⟩ := mem_take_at0.1 ((h4 y).1 hy)
    have c1 := hs (m - 1) m (by omega) hm
    by_cases hp : p = m - 1
    · subst hp; omega
    · have := hs p (m - 1) (by omega) (by omega); omega
  refine ⟨by simpa using h1, by omega, ?_, fun x => ?_, fun i hi => ?_⟩
  · rw [ht]; exact h3.snoc hlt
  · rw [ht, List.mem_append, h4]
    simp only [mem_take_at0, List.mem_singleton]
    constructor
    · rintro (⟨p, a, b, e⟩ | e)
      · exact ⟨p, by omega, b, e⟩
      · exact ⟨m, by omega, hm, e.symm⟩
    · rintro ⟨p, a, b, e⟩
      by_cases hp : p = m
      · subst hp; exact .inr e.symm
      · exact .inl ⟨p, by omega, b, e⟩
  · rw [at0_set, if_neg (by omega)]; exact h5 i (by omega)
theorem Comp.start {xs : List Int} {k : Nat} (hk : ∀ i, 0 < i → i < k → at0 xs i ≠ at0 xs (i - 1)) (hs : Upto xs.length xs) (hkl : k ≤ xs.length) : Comp xs xs k k := by
  refine ⟨rfl, Nat.le_refl _, ?_, fun _ => Iff.rfl, fun _ _ => rfl⟩
  unfold Asc
  rw [List.pairwise_iff_getElem]
  intro p q hp hq hpq
  rw [List.length_take] at hp hq
  rw [List.getElem_take, List.getElem_take, at0_eq, at0_eq]
  have h1 := hk q (by omega) (by omega)
  have h2 := hs (q - 1) q (by omega) (by omega)
  by_cases e : p = q - 1
  · subst e; omega
  · have := hs p (q - 1) (by omega) (by omega); omega

/-! what a formula may read -/
def mayL (ps : List Part) : List Int := ((List.range 10).map (fun (k : Nat) => (k : Int))).filter (fun n => ps.any fun p => decide (p.kind = 1) && decide (p.n = n))
def readsOf (ps : List Part) : List Int := ps.filterMap fun p => if p.kind = 1 then some p.n else none
theorem mem_readsOf {ps : List Part} {n : Int} : n ∈ readsOf ps ↔ ∃ p ∈ ps, p.kind = 1 ∧ p.n = n := by
  unfold readsOf
  rw [List.mem_filterMap]
  constructor
  · rintro ⟨p, hp, e⟩
    split at e
    · rename_i h; injection e with e; exact ⟨p, hp, h, e⟩
    · cases e
  · rintro ⟨p, hp, h, e⟩; exact ⟨p, hp, by rw [if_pos h, e]⟩
theorem mem_mayL {ps : List Part} {n : Int} : n ∈ mayL ps ↔ (0 ≤ n ∧ n < 10) ∧ ∃ p ∈ ps, p.kind = 1 ∧ p.n = n := by
  unfold mayL
  rw [List.mem_filter, List.mem_map]
  simp only [List.any_eq_true, Bool.and_eq_true, decide_eq_true_eq, List.mem_range]
  constructor
  · rintro ⟨⟨k, hk, rfl⟩, h⟩; exact ⟨by omega, h⟩
  · rintro ⟨⟨h0, h1⟩, h⟩; exact ⟨⟨n.toNat, by omega, by omega⟩, h⟩
theorem asc_mayL (ps : List Part) : Asc (mayL ps) := (asc_range 10).filter _
def ReadsFit (ps : List Part) : Prop := ∀ p ∈ ps, p.kind = 1 → 0 ≤ p.n ∧ p.n < 10
theorem mayL_eq {ps : List Part} (hf : ReadsFit ps) {ys : List Int} (ha : Asc ys) (hm : ∀ x, x ∈ ys ↔ x ∈ readsOf ps) : ys = mayL ps := by
  refine ha.ext (asc_mayL ps) fun x => ?_
  rw [hm, mem_readsOf, mem_mayL]
  constructor
  · rintro ⟨p, hp, h, e⟩; exact ⟨by have := hf p hp h; omega, p, hp, h, e⟩
  · rintro ⟨_, h⟩; exact h
theorem ValidP.fit {ps : List Part} (h : ValidP ps) : ReadsFit ps := by
  intro p hp hk
  obtain ⟨i, hi, rfl⟩ := List.mem_iff_getElem.1 hp
  have := (h.2.2.1 i hi).1
  simp [aloneB, hk, inB] at this
  omega
theorem mayL_length (ps : List Part) : (mayL ps).length ≤ 10 := by
  unfold mayL
  refine Nat.le_trans (List.length_filter_le _ _) ?_
  simp
theorem readsOf_length (ps : List Part) : (readsOf ps).length ≤ ps.length := List.length_filterMap_le _ _
/-- what may be read below a number -/
def mayU (n : Nat) (ps : List Part) : List Int := ((List.range n).map (fun (k : Nat) => (k : Int))).filter (fun n => ps.any fun p => decide (p.kind = 1) && decide (p.n = n))
theorem mayU_ten (ps : List Part) : mayU 10 ps = mayL ps := rfl
theorem mayU_length (n : Nat) (ps : List Part) : (mayU n ps).length ≤ n := by
  unfold mayU
  refine Nat.le_trans (List.length_filter_le _ _) ?_
  simp
theorem mayU_hit {n : Nat} {ps : List Part} {i : Nat} (h : i < ps.length) (hk : ps[i].kind = 1) (hn : ps[i].n = n) : mayU (n + 1) ps = mayU n ps ++ [(n : Int)] := by
  unfold mayU
  rw [List.range_succ, List.map_append, List.filter_append]
  congr 1
  have : (ps.any fun p => decide (p.kind = 1) && decide (p.n = (n : Int))) = true := by
    rw [List.any_eq_true]; exact ⟨ps[i], List.getElem_mem h, by simp [hk, hn]⟩
  simp [List.filter_cons, this]
theorem mayU_miss {n : Nat} {ps : List Part} (hm : ∀ i (h : i < ps.length), ¬ (ps[i].kind = 1 ∧ ps[i].n = n)) : mayU (n + 1) ps = mayU n ps := by
  unfold mayU
  rw [List.range_succ, List.map_append, List.filter_append]
  have : (ps.any fun p => decide (p.kind = 1) && decide (p.n = (n : Int))) = false := by
    rw [List.any_eq_false]
    intro p hp
    obtain ⟨i, hi, rfl⟩ := List.mem_iff_getElem.1 hp
    simpa using hm i hi
  simp [List.filter_cons, this]
theorem readsOf_hit {ps : List Part} {i : Nat} (h : i < ps.length) (hk : ps[i].kind = 1) : readsOf (ps.take (i + 1)) = readsOf (ps.take i) ++ [ps[i].n] := by
  unfold readsOf
  rw [List.take_succ_eq_append_getElem h, List.filterMap_append]; simp [hk]
theorem readsOf_miss {ps : List Part} {i : Nat} (h : i < ps.length) (hk : ¬ ps[i].kind = 1) : readsOf (ps.take (i + 1)) = readsOf (ps.take i) := by
  unfold readsOf
  rw [List.take_succ_eq_append_getElem h, List.filterMap_append]; simp [hk]

/-! graphs -/
def kindAt (g : List Nd) (k : Int) : Int := match g[k.toNat]? with
  | some m => m.kind
  | none => 0
theorem kindAt_eq {g : List Nd} {k : Nat} (h : k < g.length) : kindAt g k = g[k].kind := by simp [kindAt, h]
def ReadsOk (g : List Nd) (i : Int) (ps : List Part) : Prop := ∀ k ∈ mayL ps, k < i ∧ kindAt g k ≠ 2
def GoodNd (g : List Nd) (i : Nat) (n : Nd) : Prop := (n.kind = 0 ∧ n.parts = []) ∨ ((n.kind = 1 ∨ n.kind = 2) ∧ ValidP n.parts ∧ ReadsOk g i n.parts)
def ValidG (g : List Nd) : Prop := g.length ≤ 10 ∧ ∀ i (h : i < g.length), GoodNd g i g[i]
open Classical in
noncomputable def readsOkB (g : List Nd) (i : Int) (ps : List Part) : Bool := decide (ReadsOk g i ps)
theorem readsOkB_iff {g : List Nd} {i : Int} {ps : List Part} : readsOkB g i ps = true ↔ ReadsOk g i ps := by simp [readsOkB]
theorem readsOkB_not {g : List Nd} {i : Int} {ps : List Part} : readsOkB g i ps = false ↔ ¬ ReadsOk g i ps := by simp [readsOkB]
open Classical in
noncomputable def validG (g : List Nd) : Bool := decide (ValidG g)
theorem validG_iff {g : List Nd} : validG g = true ↔ ValidG g := by simp [validG]
theorem validG_not {g : List Nd} : validG g = false ↔ ¬ ValidG g := by simp [validG]
/-- values for the cells of a graph -/
def CellsOk (g : List Nd) (xs : List Int) : Prop := xs.length = g.length ∧ ∀ i (h : i < xs.length) (h' : i < g.length), (0 ≤ xs[i] ∧ xs[i] ≤ 999) ∧ (g[i].kind ≠ 0 → xs[i] = 0)
open Classical in
noncomputable def cellsOkB (g : List Nd) (xs : List Int) : Bool := decide (CellsOk g xs)
theorem cellsOkB_iff {g : List Nd} {xs : List Int} : cellsOkB g xs = true ↔ CellsOk g xs := by simp [cellsOkB]
theorem cellsOkB_not {g : List Nd} {xs : List Int} : cellsOkB g xs = false ↔ ¬ CellsOk g xs := by simp [cellsOkB]
def cellB (g : List Nd) (n : Int) : Bool := inB n 0 ((g.length : Int) - 1) && decide (kindAt g n = 0)
/-! reads renamed -/
def renP (to : List Int) (p : Part) : Part := if p.kind = 1 then p.put 4 (at0 to p.n.toNat) else p
def renUp (to : List Int) (ps : List Part) (i : Nat) : List Part := (ps.take i).map (renP to) ++ ps.drop i
theorem renUp_length (to : List Int) (ps : List Part) (i : Nat) : (renUp to ps i).length = ps.length := by simp [renUp]; omega
theorem renUp_zero (to : List Int) (ps : List Part) : renUp to ps 0 = ps := by simp [renUp]
theorem renUp_all (to : List Int) (ps : List Part) : renUp to ps ps.length = ps.map (renP to) := by simp [renUp]
theorem renUp_get (to : List Int) (ps : List Part) (i : Nat) (h : i < (renUp to ps i).length) : (renUp to ps i)[i] = ps[i]'(by rwa [renUp_length] at h) := by
  have h' : i < ps.length := by rwa [renUp_length] at h
  simp only [renUp]
  rw [List.getElem_append_right (by simp; omega)]
  simp only [List.length_map, List.length_take, List.getElem_drop]
  congr 1
  omega
theorem renUp_succ (to : List Int) (ps : List Part) (i : Nat) (h : i < ps.length) : renUp to ps (i + 1) = (ps.take i).map (renP to) ++ renP to ps[i] :: ps.drop (i + 1) := by
  unfold renUp
  rw [List.take_succ_eq_append_getElem h, List.map_append, List.append_assoc]
  rfl
theorem renUp_set (to : List Int) (ps : List Part) (i : Nat) (h : i < ps.length) (p : Part) : (renUp to ps i).set i p = (ps.take i).map (renP to) ++ p :: ps.drop (i + 1) := by
  unfold renUp
  rw [List.set_append, if_neg (by simp; omega)]
  congr 1
  rw [← List.getElem_cons_drop h]
  have : i - (List.map (renP to) (List.take i ps)).length = 0 := by simp; omega
  rw [this]
  rfl
theorem renUp_put (to : List Int) (ps : List Part) (i : Nat) (h : i < ps.length) (hk : ps[i].kind = 1) : (renUp to ps i).set i (ps[i].put 4 (at0 to ps[i].n.toNat)) = renUp to ps (i + 1) := by
  rw [renUp_succ _ _ _ h, renUp_set _ _ _ h]
  simp [renP, hk]
theorem renUp_skip (to : List Int) (ps : List Part) (i : Nat) (h : i < ps.length) (hk : ¬ ps[i].kind = 1) : renUp to ps i = renUp to ps (i + 1) := by
  rw [renUp_succ _ _ _ h]
  unfold renUp
  congr 1
  rw [← List.getElem_cons_drop h]
  simp [renP, hk]
def RenOk (ps : List Part) (to : List Int) : Prop := ValidP ps ∧ to.length ≤ 10 ∧ (∀ x ∈ to, 0 ≤ x ∧ x ≤ 9) ∧ ∀ i (h : i < ps.length), ps[i].kind = 1 → ps[i].n < to.length
open Classical in
noncomputable def renL (ps : List Part) (to : List Int) : List Part := if RenOk ps to then ps.map (renP to) else []
theorem renL_ok {ps : List Part} {to : List Int} (h : RenOk ps to) : renL ps to = ps.map (renP to) := if_pos h
theorem renL_no {ps : List Part} {to : List Int} (h : ¬ RenOk ps to) : renL ps to = [] := if_neg h
theorem renL_length {ps : List Part} {to : List Int} : (renL ps to).length ≤ 12 := by
  by_cases h : RenOk ps to
  · rw [renL_ok h]; simp; exact h.1.2.1
  · rw [renL_no h]; simp
theorem ValidP.reads {ps : List Part} (h : ValidP ps) {i : Nat} (hi : i < ps.length) (hk : ps[i].kind = 1) : 0 ≤ ps[i].n ∧ ps[i].n ≤ 9 := by
  have := h.fit ps[i] (List.getElem_mem hi) hk
  omega
noncomputable def mayV (ps : List Part) : List Int := if validF ps then mayL ps else []
theorem mayV_yes {ps : List Part} (h : validF ps = true) : mayV ps = mayL ps := by simp [mayV, h]
theorem mayV_no {ps : List Part} (h : validF ps = false) : mayV ps = [] := by simp [mayV, h]
theorem mayV_length (ps : List Part) : (mayV ps).length ≤ 10 := by
  unfold mayV
  split
  · exact mayL_length ps
  · simp
theorem asc_mayV (ps : List Part) : Asc (mayV ps) := by
  unfold mayV
  split
  · exact asc_mayL ps
  · exact List.Pairwise.nil
/-- each node by itself -/
def sames : List Int := (List.range 10).map (fun (k : Nat) => (k : Int))
theorem renL_same {ps : List Part} (h : ValidP ps) : renL ps sames = ps := by
  have hat : ∀ n : Int, 0 ≤ n → n ≤ 9 → at0 sames n.toNat = n := by
    intro n h0 h1
    have : n.toNat < 10 := by omega
    simp [at0, sames, List.getD_eq_getElem?_getD, List.getElem?_map, List.getElem?_range this]
    omega
  rw [renL_ok ⟨h, by simp [sames], fun x hx => by simp [sames] at hx; omega, fun i hi hk => by have := h.reads hi hk; simp [sames]; omega⟩]
  apply List.ext_getElem (by simp)
  intro i h1 h2
  rw [List.getElem_map]
  unfold renP
  split
  · rename_i hk
    have := h.reads h2 hk
    rw [hat _ this.1 this.2]
    rfl
  · rfl
end SG
