/- Plain data: parts of formulas and the like. No program here. -/
namespace SG
set_option linter.unusedSimpArgs false
structure Part where
  kind : Int
  a : Int
  b : Int
  c : Int
  n : Int
  deriving DecidableEq, Inhabited
structure Act3 where
  kind : Int
  node : Int
  value : Int
  deriving DecidableEq, Inhabited
/-- a node of a graph -/
structure Nd where
  kind : Int
  parts : List Part
  deriving DecidableEq, Inhabited
def inB (n lo hi : Int) : Bool := decide (lo ≤ n) && decide (n ≤ hi)
theorem inB_iff {n lo hi : Int} : inB n lo hi = true ↔ lo ≤ n ∧ n ≤ hi := by simp [inB]
theorem inB_not {n lo hi : Int} : inB n lo hi = false ↔ ¬ (lo ≤ n ∧ n ≤ hi) := by rw [← inB_iff]; cases inB n lo hi <;> simp
def aloneB (p : Part) : Bool :=
  if p.kind = 0 then inB p.n 0 99 && decide (p.a = -1) && decide (p.b = -1) && decide (p.c = -1)
  else if p.kind = 1 then inB p.n 0 9 && decide (p.a = -1) && decide (p.b = -1) && decide (p.c = -1)
  else if p.kind = 8 then decide (p.n = 0)
  else if inB p.kind 2 7 then decide (p.n = 0) && decide (p.c = -1)
  else false
def belowL (p : Part) : List Int :=
  if p.kind = 8 then [p.a, p.b, p.c] else if inB p.kind 2 7 then [p.a, p.b] else []
def GoodAt (p : Part) (i : Nat) : Prop := aloneB p = true ∧ ∀ k ∈ belowL p, 0 ≤ k ∧ k < i
def ValidP (ps : List Part) : Prop :=
  1 ≤ ps.length ∧ ps.length ≤ 12 ∧ (∀ i (h : i < ps.length), GoodAt ps[i] i) ∧ ∀ j : Nat, j + 1 < ps.length → (ps.flatMap belowL).count (j : Int) = 1
open Classical in
noncomputable def validF (ps : List Part) : Bool := decide (ValidP ps)
theorem validF_iff {ps : List Part} : validF ps = true ↔ ValidP ps := by simp [validF]
theorem validF_not {ps : List Part} : validF ps = false ↔ ¬ ValidP ps := by simp [validF]

/-- how often each index is below a part -/
def usedL (n : Nat) (ks : List Int) : List Int := (List.range n).map fun (j : Nat) => ((ks.count (j : Int) : Nat) : Int)
@[simp] theorem usedL_length (n : Nat) (ks : List Int) : (usedL n ks).length = n := by simp [usedL]
theorem usedL_get? (n : Nat) (ks : List Int) (k : Nat) : (usedL n ks)[k]? = if k < n then some ((ks.count (k : Int) : Nat) : Int) else none := by
  unfold usedL
  rw [List.getElem?_map]
  split
  · rename_i h; rw [List.getElem?_range h]; rfl
  · rename_i h; rw [List.getElem?_eq_none (by simpa using h)]; rfl
theorem usedL_nil (n : Nat) : usedL n [] = List.replicate n 0 := by
  apply List.ext_getElem?
  intro i
  rw [usedL_get?, List.getElem?_replicate]
  rfl
theorem usedL_get (n : Nat) (ks : List Int) (k : Nat) (h : k < (usedL n ks).length) : (usedL n ks)[k] = ((ks.count (k : Int) : Nat) : Int) := by
  have := usedL_get? n ks k
  rw [List.getElem?_eq_getElem h, if_pos (by simpa using h)] at this
  simpa using this
theorem usedL_snoc (n : Nat) (ks : List Int) (k : Nat) (h : k < (usedL n ks).length) : (usedL n ks).set k ((usedL n ks)[k] + 1) = usedL n (ks ++ [(k : Int)]) := by
  apply List.ext_getElem?
  intro i
  have hk : k < n := by simpa using h
  have e := usedL_get n ks k h
  generalize (usedL n ks)[k] = x at e ⊢
  subst e
  rw [List.getElem?_set, usedL_get?, usedL_get?]
  by_cases hi : k = i
  · subst hi
    simp [hk, List.count_append]
  · have : ¬ ((k : Int) = (i : Int)) := by omega
    simp [hi, List.count_append, this]
theorem usedL_snocI (n : Nat) (ks : List Int) (x : Int) (h0 : 0 ≤ x) (h : x.toNat < (usedL n ks).length) : (usedL n ks).set x.toNat ((usedL n ks)[x.toNat] + 1) = usedL n (ks ++ [x]) := by
  have := usedL_snoc n ks x.toNat h
  rwa [Int.toNat_of_nonneg h0] at this
theorem usedL_bound (n : Nat) (ks : List Int) (k : Nat) (h : k < (usedL n ks).length) : 0 ≤ (usedL n ks)[k] ∧ (usedL n ks)[k] ≤ ks.length := by
  rw [usedL_get]
  exact ⟨by omega, by have := List.count_le_length (a := (k : Int)) (l := ks); omega⟩
theorem belowL_short (p : Part) : (belowL p).length ≤ 3 := by
  unfold belowL
  split
  · simp
  · split <;> simp
theorem flatMap_below_length (xs : List Part) : (xs.flatMap belowL).length ≤ 3 * xs.length := by
  induction xs with
  | nil => simp
  | cons x xs ih =>
    have := belowL_short x
    simp only [List.flatMap_cons, List.length_append, List.length_cons]
    omega
theorem take_succ_flatMap {α β : Type} (f : α → List β) (xs : List α) (i : Nat) (h : i < xs.length) : (xs.take (i + 1)).flatMap f = (xs.take i).flatMap f ++ f xs[i] := by
  rw [List.take_succ_eq_append_getElem h, List.flatMap_append]; simp [List.flatMap]
def arityI (k : Int) : Int := if k = 0 ∨ k = 1 then 0 else if 2 ≤ k ∧ k ≤ 7 then 2 else if k = 8 then 3 else -1
def numPart (k : Int) : Part := ⟨0, -1, -1, -1, k⟩
def goodB (p : Part) (i : Int) : Bool :=
  if arityI p.kind = 0 then decide (p.a = -1) && decide (p.b = -1) && decide (p.c = -1) && inB p.n 0 (if p.kind = 1 then 9 else 99)
  else if arityI p.kind = 2 then inB p.a 0 (i - 1) && inB p.b 0 (i - 1) && decide (p.c = -1) && decide (p.n = 0)
  else if arityI p.kind = 3 then inB p.a 0 (i - 1) && inB p.b 0 (i - 1) && inB p.c 0 (i - 1) && decide (p.n = 0)
  else false
theorem belowL_ar2 {p : Part} (h : arityI p.kind = 2) : belowL p = [p.a, p.b] := by
  unfold arityI at h
  have h1 : 2 ≤ p.kind ∧ p.kind ≤ 7 := by (repeat' split at h) <;> omega
  simp [belowL, inB, h1, show p.kind ≠ 8 by omega]
theorem belowL_ar3 {p : Part} (h : arityI p.kind = 3) : belowL p = [p.a, p.b, p.c] := by
  unfold arityI at h
  have h1 : p.kind = 8 := by (repeat' split at h) <;> omega
  simp [belowL, h1]
theorem belowL_ar0 {p : Part} (h : ¬ arityI p.kind = 2) (h' : ¬ arityI p.kind = 3) : belowL p = [] := by
  unfold arityI at h h'
  have h1 : p.kind ≠ 8 ∧ ¬ (2 ≤ p.kind ∧ p.kind ≤ 7) := by
    refine ⟨fun e => h' (by simp [e]), fun e => h ?_⟩
    rw [if_neg (by omega), if_pos e]
  simp [belowL, inB, h1.1]; omega
theorem goodB_iff {p : Part} {i : Nat} : goodB p i = true ↔ GoodAt p i := by
  unfold goodB GoodAt aloneB
  by_cases k0 : p.kind = 0
  · simp [k0, arityI, belowL, inB]; constructor <;> (intro h; simp_all)
  by_cases k1 : p.kind = 1
  · simp [k1, arityI, belowL, inB]; constructor <;> (intro h; simp_all)
  by_cases k8 : p.kind = 8
  · simp [k8, arityI, belowL, inB]
    constructor
    · rintro ⟨⟨⟨a, b⟩, c⟩, d⟩; exact ⟨d, by omega, by omega, by omega⟩
    · rintro ⟨d, a, b, c⟩; exact ⟨⟨⟨by omega, by omega⟩, by omega⟩, d⟩
  by_cases k2 : 2 ≤ p.kind ∧ p.kind ≤ 7
  · have e : arityI p.kind = 2 := by unfold arityI; rw [if_neg (by omega), if_pos k2]
    have e' : inB p.kind 2 7 = true := inB_iff.2 k2
    simp only [k0, k1, k8, e, belowL, e', if_true, if_false, Bool.and_eq_true, decide_eq_true_eq, inB_iff, List.mem_cons, List.not_mem_nil, or_false, forall_eq_or_imp, forall_eq]
    simp only [show ¬ ((2 : Int) = 0) by decide, if_false, Bool.and_eq_true, decide_eq_true_eq, inB_iff]
    constructor
    · rintro ⟨⟨⟨a, b⟩, c⟩, d⟩; exact ⟨⟨d, c⟩, by omega, by omega⟩
    · rintro ⟨⟨d, c⟩, a, b⟩; exact ⟨⟨⟨by omega, by omega⟩, c⟩, d⟩
  · have e : arityI p.kind = -1 := by unfold arityI; rw [if_neg (by omega), if_neg k2, if_neg k8]
    have e' : inB p.kind 2 7 = false := inB_not.2 k2
    simp [k0, k1, k8, e, e']
end SG

/- Plain data: lists that ascend; what a formula may read. No program here. -/
namespace SG
set_option linter.unusedSimpArgs false
def Part.put (p : Part) (j : Nat) (x : Int) : Part := match j with
  | 0 => { p with kind := x }
  | 1 => { p with a := x }
  | 2 => { p with b := x }
  | 3 => { p with c := x }
  | _ => { p with n := x }
/-- the number at an index, 0 where there is none -/
def at0 (xs : List Int) (p : Nat) : Int := xs.getD p 0
theorem at0_eq {xs : List Int} {p : Nat} (h : p < xs.length) : xs[p] = at0 xs p := by simp [at0, List.getD_eq_getElem?_getD, h]
theorem at0_set (xs : List Int) (i p : Nat) (v : Int) : at0 (xs.set i v) p = if p = i ∧ i < xs.length then v else at0 xs p := by
  simp only [at0, List.getD_eq_getElem?_getD, List.getElem?_set]
  by_cases h : i = p
  · subst h
    by_cases hl : i < xs.length
    · simp [hl]
    · simp [hl]
  · simp [h, show ¬ p = i from fun e => h e.symm]
theorem at0_take {xs : List Int} {n p : Nat} (h : p < n) : at0 (xs.take n) p = at0 xs p := by
  simp [at0, List.getD_eq_getElem?_getD, List.getElem?_take, h]
theorem at0_drop (xs : List Int) (k p : Nat) : at0 (xs.drop k) p = at0 xs (k + p) := by simp [at0, List.getD_eq_getElem?_getD]
theorem mem_at0 {xs : List Int} {x : Int} : x ∈ xs ↔ ∃ p, p < xs.length ∧ at0 xs p = x := by
  rw [List.mem_iff_getElem]
  constructor
  · rintro ⟨p, h, e⟩; exact ⟨p, h, by rw [← at0_eq h, e]⟩
  · rintro ⟨p, h, e⟩; exact ⟨p, h, by rw [at0_eq h, e]⟩
/-- sorted up to a length -/
def Upto (n : Nat) (xs : List Int) : Prop := ∀ p q, p < q → q < n → at0 xs p ≤ at0 xs q
/-- the same numbers in another order -/
def SameM (ys xs : List Int) : Prop := ys.length = xs.length ∧ ∀ x, x ∈ ys ↔ x ∈ xs
theorem SameM.refl (xs : List Int) : SameM xs xs := ⟨rfl, fun _ => Iff.rfl⟩
theorem SameM.trans {a b c : List Int} (h : SameM a b) (h' : SameM b c) : SameM a c := ⟨h.1.trans h'.1, fun x => (h.2 x).trans (h'.2 x)⟩
theorem SameM.swap {xs : List Int} {i j : Nat} (hi : i < xs.length) (hj : j < xs.length) : SameM ((xs.set i (at0 xs j)).set j (at0 xs i)) xs := by
  refine ⟨by simp, fun x => ?_⟩
  simp only [mem_at0, List.length_set, at0_set]
  constructor
  · rintro ⟨p, hp, e⟩
    split at e
    · exact ⟨i, hi, e⟩
    · split at e
      · exact ⟨j, hj, e⟩
      · exact ⟨p, hp, e⟩
  · rintro ⟨p, hp, e⟩
    by_cases h1 : p = i
    · subst h1; exact ⟨j, hj, by simp [hj, e]⟩
    · by_cases h2 : p = j
      · subst h2
        refine ⟨i, hi, ?_⟩
        by_cases h3 : i = p
        · exact absurd h3.symm h1
        · simp [h3, hi, e]
      · exact ⟨p, hp, by simp [h1, h2, e]⟩
/-- one swap of the insertion sort -/
def Nearly (i j : Nat) (xs : List Int) : Prop := ∀ p q, p < q → q ≤ i → q ≠ j → at0 xs p ≤ at0 xs q
theorem Nearly.swap {xs : List Int} {i j : Nat} (h : Nearly i j xs) (h0 : 0 < j) (hji : j ≤ i) (hi : i < xs.length) (hlt : at0 xs j < at0 xs (j - 1)) : Nearly i (j - 1) ((xs.set j (at0 xs (j - 1))).set (j - 1) (at0 xs j)) := by
  intro p q hpq hq hqj
  simp only [at0_set, List.length_set]
  have a1 := h p q hpq hq
  have a2 := h p (j - 1)
  have a3 := h (j - 1) q
  have a4 := h p q
  by_cases e1 : q = j
  · subst e1
    by_cases e2 : p = q - 1
    · subst e2
      simp [show ¬ (q = q - 1) by omega, show q - 1 < xs.length by omega, show q < xs.length by omega]
      omega
    · have := a2 (by omega) (by omega) (by omega)
      simp [show ¬ (q = q - 1) by omega, show ¬ (p = q - 1) from e2, show ¬ p = q by omega, show q < xs.length by omega]
      exact this
  · have b1 := a1 e1
    by_cases e2 : p = j
    · subst e2
      have := a3 (by omega) hq e1
      simp [show ¬ (p = p - 1) by omega, show ¬ q = p - 1 from hqj, e1, show p < xs.length by omega]
      exact this
    · by_cases e3 : p = j - 1
      · subst e3
        simp [hqj, e1, show j - 1 < xs.length by omega]
        omega
      · simp [hqj, e1, e2, e3]
        exact b1
theorem Nearly.stop0 {xs : List Int} {i : Nat} (h : Nearly i 0 xs) : Upto (i + 1) xs := fun p q hpq hq => h p q hpq (by omega) (by omega)
theorem Nearly.stop {xs : List Int} {i j : Nat} (h : Nearly i j xs) (h0 : 0 < j) (hji : j ≤ i) (hge : ¬ at0 xs j < at0 xs (j - 1)) : Upto (i + 1) xs := by
  intro p q hpq hq
  by_cases e : q = j
  · subst e
    by_cases e2 : p = q - 1
    · subst e2; omega
    · have := h p (q - 1) (by omega) (by omega) (by omega)
      omega
  · exact h p q hpq (by omega) e
theorem Nearly.start {xs : List Int} {i : Nat} (h : Upto i xs) : Nearly i i xs := fun p q hpq hq hne => h p q hpq (by omega)

/-! strictly ascending -/
def Asc (xs : List Int) : Prop := List.Pairwise (· < ·) xs
theorem Asc.ext : ∀ {xs ys : List Int}, Asc xs → Asc ys → (∀ x, x ∈ xs ↔ x ∈ ys) → xs = ys := by
  intro xs
  induction xs with
  | nil =>
    intro ys _ _ h
    cases ys with
    | nil => rfl
    | cons y ys => have := (h y).2 (by simp); simp at this
  | cons x xs ih =>
    intro ys hx hy h
    cases ys with
    | nil => have := (h x).1 (by simp); simp at this
    | cons y ys =>
      have hx' := List.pairwise_cons.1 hx
      have hy' := List.pairwise_cons.1 hy
      have e : x = y := by
        have h1 := (h x).1 (by simp)
        have h2 := (h y).2 (by simp)
        rcases List.mem_cons.1 h1 with h1 | h1
        · exact h1
        · rcases List.mem_cons.1 h2 with h2 | h2
          · exact h2.symm
          · have := hx'.1 y h2; have := hy'.1 x h1; omega
      subst e
      congr 1
      refine ih hx'.2 hy'.2 fun z => ?_
      constructor
      · intro hz
        rcases List.mem_cons.1 ((h z).1 (by simp [hz])) with rfl | h'
        · exact absurd (hx'.1 _ hz) (by omega)
        · exact h'
      · intro hz
        rcases List.mem_cons.1 ((h z).2 (by simp [hz])) with rfl | h'
        · exact absurd (hy'.1 _ hz) (by omega)
        · exact h'
theorem asc_range (n : Nat) : Asc ((List.range n).map (fun (k : Nat) => (k : Int))) := by
  unfold Asc
  rw [List.pairwise_map]
  exact List.Pairwise.imp (by intro a b h; omega) List.pairwise_lt_range
theorem Asc.snoc {xs : List Int} {x : Int} (h : Asc xs) (hx : ∀ y ∈ xs, y < x) : Asc (xs ++ [x]) := by
  unfold Asc
  rw [List.pairwise_append]
  exact ⟨h, by simp, by simpa using hx⟩
/-- one step of taking out doubles: y up to k are the different ones of x up to m -/
def Comp (xs ys : List Int) (k m : Nat) : Prop := ys.length = xs.length ∧ k ≤ m ∧ Asc (ys.take k) ∧ (∀ x, x ∈ ys.take k ↔ x ∈ xs.take m) ∧ ∀ i, k ≤ i → at0 ys i = at0 xs i
theorem mem_take_at0 {xs : List Int} {m : Nat} {x : Int} : x ∈ xs.take m ↔ ∃ p, p < m ∧ p < xs.length ∧ at0 xs p = x := by
  rw [mem_at0]
  constructor
  · rintro ⟨p, hp, e⟩
    rw [List.length_take] at hp
    exact ⟨p, by omega, by omega, by rwa [at0_take (by omega)] at e⟩
  · rintro ⟨p, h1, h2, e⟩
    exact ⟨p, by rw [List.length_take]; omega, by rwa [at0_take h1]⟩
theorem Comp.skip {xs ys : List Int} {k m : Nat} (h : Comp xs ys k m) (hm0 : 0 < m) (hm : m < xs.length) (heq : at0 xs m = at0 xs (m - 1)) : Comp xs ys k (m + 1) := by
  obtain ⟨h1, h2, h3, h4, h5⟩ := h
  refine ⟨h1, by omega, h3, fun x => ?_, h5⟩
  rw [h4]
  simp only [mem_take_at0]
  constructor
  · rintro ⟨p, a, b, e⟩; exact ⟨p, by omega, b, e⟩
  · rintro ⟨p, a, b, e⟩
    by_cases hp : p = m
    · subst hp; exact ⟨p - 1, by omega, by omega, by rw [← heq]; exact e⟩
    · exact ⟨p, by omega, b, e⟩
theorem Comp.put {xs ys : List Int} {k m : Nat} (h : Comp xs ys k m) (hs : Upto xs.length xs) (hm0 : 0 < m) (hm : m < xs.length) (hne : at0 xs m ≠ at0 xs (m - 1)) : Comp xs (ys.set k (at0 xs m)) (k + 1) (m + 1) := by
  obtain ⟨h1, h2, h3, h4, h5⟩ := h
  have hk : k < ys.length := by omega
  have ht : (ys.set k (at0 xs m)).take (k + 1) = ys.take k ++ [at0 xs m] := by
    rw [List.take_succ_eq_append_getElem (by simpa using hk), List.take_set_of_le (Nat.le_refl _)]
    simp
  have hlt : ∀ y ∈ ys.take k, y < at0 xs m := by
    intro y hy
    obtain ⟨p, a, b, e⟩ := mem_take_at0.1 ((h4 y).1 hy)
    have c1 := hs (m - 1) m (by omega) hm
    by_cases hp : p = m - 1
    · subst hp; omega
    · have := hs p (m - 1) (by omega) (by omega); omega
  refine ⟨by simpa using h1, by omega, ?_, fun x => ?_, fun i hi => ?_⟩
  · rw [ht]; exact h3.snoc hlt
  · rw [ht, List.mem_append, h4]
    simp only [mem_take_at0, List.mem_singleton]
    constructor
    · rintro (⟨p, a, b, e⟩ | e)
      · exact ⟨p, by omega, b, e⟩
      · exact ⟨m, by omega, hm, e.symm⟩
    · rintro ⟨p, a, b, e⟩
      by_cases hp : p = m
      · subst hp; exact .inr e.symm
      · exact .inl ⟨p, by omega, b, e⟩
  · rw [at0_set, if_neg (by omega)]; exact h5 i (by omega)
theorem Comp.start {xs : List Int} {k : Nat} (hk : ∀ i, 0 < i → i < k → at0 xs i ≠ at0 xs (i - 1)) (hs : Upto xs.length xs) (hkl : k ≤ xs.length) : Comp xs xs k k := by
  refine ⟨rfl, Nat.le_refl _, ?_, fun _ => Iff.rfl, fun _ _ => rfl⟩
  unfold Asc
  rw [List.pairwise_iff_getElem]
  intro p q hp hq hpq
  rw [List.length_take] at hp hq
  rw [List.getElem_take, List.getElem_take, at0_eq, at0_eq]
  have h1 := hk q (by omega) (by omega)
  have h2 := hs (q - 1) q (by omega) (by omega)
  by_cases e : p = q - 1
  · subst e; omega
  · have := hs p (q - 1) (by omega) (by omega); omega

/-! what a formula may read -/
def mayL (ps : List Part) : List Int := ((List.range 10).map (fun (k : Nat) => (k : Int))).filter (fun n => ps.any fun p => decide (p.kind = 1) && decide (p.n = n))
def readsOf (ps : List Part) : List Int := ps.filterMap fun p => if p.kind = 1 then some p.n else none
theorem mem_readsOf {ps : List Part} {n : Int} : n ∈ readsOf ps ↔ ∃ p ∈ ps, p.kind = 1 ∧ p.n = n := by
  unfold readsOf
  rw [List.mem_filterMap]
  constructor
  · rintro ⟨p, hp, e⟩
    split at e
    · rename_i h; injection e with e; exact ⟨p, hp, h, e⟩
    · cases e
  · rintro ⟨p, hp, h, e⟩; exact ⟨p, hp, by rw [if_pos h, e]⟩
theorem mem_mayL {ps : List Part} {n : Int} : n ∈ mayL ps ↔ (0 ≤ n ∧ n < 10) ∧ ∃ p ∈ ps, p.kind = 1 ∧ p.n = n := by
  unfold mayL
  rw [List.mem_filter, List.mem_map]
  simp only [List.any_eq_true, Bool.and_eq_true, decide_eq_true_eq, List.mem_range]
  constructor
  · rintro ⟨⟨k, hk, rfl⟩, h⟩; exact ⟨by omega, h⟩
  · rintro ⟨⟨h0, h1⟩, h⟩; exact ⟨⟨n.toNat, by omega, by omega⟩, h⟩
theorem asc_mayL (ps : List Part) : Asc (mayL ps) := (asc_range 10).filter _
def ReadsFit (ps : List Part) : Prop := ∀ p ∈ ps, p.kind = 1 → 0 ≤ p.n ∧ p.n < 10
theorem mayL_eq {ps : List Part} (hf : ReadsFit ps) {ys : List Int} (ha : Asc ys) (hm : ∀ x, x ∈ ys ↔ x ∈ readsOf ps) : ys = mayL ps := by
  refine ha.ext (asc_mayL ps) fun x => ?_
  rw [hm, mem_readsOf, mem_mayL]
  constructor
  · rintro ⟨p, hp, h, e⟩; exact ⟨by have := hf p hp h; omega, p, hp, h, e⟩
  · rintro ⟨_, h⟩; exact h
theorem ValidP.fit {ps : List Part} (h : ValidP ps) : ReadsFit ps := by
  intro p hp hk
  obtain ⟨i, hi, rfl⟩ := List.mem_iff_getElem.1 hp
  have := (h.2.2.1 i hi).1
  simp [aloneB, hk, inB] at this
  omega
theorem mayL_length (ps : List Part) : (mayL ps).length ≤ 10 := by
  unfold mayL
  refine Nat.le_trans (List.length_filter_le _ _) ?_
  simp
theorem readsOf_length (ps : List Part) : (readsOf ps).length ≤ ps.length := List.length_filterMap_le _ _
/-- what may be read below a number -/
def mayU (n : Nat) (ps : List Part) : List Int := ((List.range n).map (fun (k : Nat) => (k : Int))).filter (fun n => ps.any fun p => decide (p.kind = 1) && decide (p.n = n))
theorem mayU_ten (ps : List Part) : mayU 10 ps = mayL ps := rfl
theorem mayU_length (n : Nat) (ps : List Part) : (mayU n ps).length ≤ n := by
  unfold mayU
  refine Nat.le_trans (List.length_filter_le _ _) ?_
  simp
theorem mayU_hit {n : Nat} {ps : List Part} {i : Nat} (h : i < ps.length) (hk : ps[i].kind = 1) (hn : ps[i].n = n) : mayU (n + 1) ps = mayU n ps ++ [(n : Int)] := by
  unfold mayU
  rw [List.range_succ, List.map_append, List.filter_append]
  congr 1
  have : (ps.any fun p => decide (p.kind = 1) && decide (p.n = (n : Int))) = true := by
    rw [List.any_eq_true]; exact ⟨ps[i], List.getElem_mem h, by simp [hk, hn]⟩
  simp [List.filter_cons, this]
theorem mayU_miss {n : Nat} {ps : List Part} (hm : ∀ i (h : i < ps.length), ¬ (ps[i].kind = 1 ∧ ps[i].n = n)) : mayU (n + 1) ps = mayU n ps := by
  unfold mayU
  rw [List.range_succ, List.map_append, List.filter_append]
  have : (ps.any fun p => decide (p.kind = 1) && decide (p.n = (n : Int))) = false := by
    rw [List.any_eq_false]
    intro p hp
    obtain ⟨i, hi, rfl⟩ := List.mem_iff_getElem.1 hp
    simpa using hm i hi
  simp [List.filter_cons, this]
theorem readsOf_hit {ps : List Part} {i : Nat} (h : i < ps.length) (hk : ps[i].kind = 1) : readsOf (ps.take (i + 1)) = readsOf (ps.take i) ++ [ps[i].n] := by
  unfold readsOf
  rw [List.take_succ_eq_append_getElem h, List.filterMap_append]; simp [hk]
theorem readsOf_miss {ps : List Part} {i : Nat} (h : i < ps.length) (hk : ¬ ps[i].kind = 1) : readsOf (ps.take (i + 1)) = readsOf (ps.take i) := by
  unfold readsOf
  rw [List.take_succ_eq_append_getElem h, List.filterMap_append]; simp [hk]

/-! graphs -/
def kindAt (g : List Nd) (k : Int) : Int := match g[k.toNat]? with
  | some m => m.kind
  | none => 0
theorem kindAt_eq {g : List Nd} {k : Nat} (h : k < g.length) : kindAt g k = g[k].kind := by simp [kindAt, h]
def ReadsOk (g : List Nd) (i : Int) (ps : List Part) : Prop := ∀ k ∈ mayL ps, k < i ∧ kindAt g k ≠ 2
def GoodNd (g : List Nd) (i : Nat) (n : Nd) : Prop := (n.kind = 0 ∧ n.parts = []) ∨ ((n.kind = 1 ∨ n.kind = 2) ∧ ValidP n.parts ∧ ReadsOk g i n.parts)
def ValidG (g : List Nd) : Prop := g.length ≤ 10 ∧ ∀ i (h : i < g.length), GoodNd g i g[i]
open Classical in
noncomputable def readsOkB (g : List Nd) (i : Int) (ps : List Part) : Bool := decide (ReadsOk g i ps)
theorem readsOkB_iff {g : List Nd} {i : Int} {ps : List Part} : readsOkB g i ps = true ↔ ReadsOk g i ps := by simp [readsOkB]
theorem readsOkB_not {g : List Nd} {i : Int} {ps : List Part} : readsOkB g i ps = false ↔ ¬ ReadsOk g i ps := by simp [readsOkB]
open Classical in
noncomputable def validG (g : List Nd) : Bool := decide (ValidG g)
theorem validG_iff {g : List Nd} : validG g = true ↔ ValidG g := by simp [validG]
theorem validG_not {g : List Nd} : validG g = false ↔ ¬ ValidG g := by simp [validG]
/-- values for the cells of a graph -/
def CellsOk (g : List Nd) (xs : List Int) : Prop := xs.length = g.length ∧ ∀ i (h : i < xs.length) (h' : i < g.length), (0 ≤ xs[i] ∧ xs[i] ≤ 999) ∧ (g[i].kind ≠ 0 → xs[i] = 0)
open Classical in
noncomputable def cellsOkB (g : List Nd) (xs : List Int) : Bool := decide (CellsOk g xs)
theorem cellsOkB_iff {g : List Nd} {xs : List Int} : cellsOkB g xs = true ↔ CellsOk g xs := by simp [cellsOkB]
theorem cellsOkB_not {g : List Nd} {xs : List Int} : cellsOkB g xs = false ↔ ¬ CellsOk g xs := by simp [cellsOkB]
def cellB (g : List Nd) (n : Int) : Bool := inB n 0 ((g.length : Int) - 1) && decide (kindAt g n = 0)
/-! reads renamed -/
def renP (to : List Int) (p : Part) : Part := if p.kind = 1 then p.put 4 (at0 to p.n.toNat) else p
def renUp (to : List Int) (ps : List Part) (i : Nat) : List Part := (ps.take i).map (renP to) ++ ps.drop i
theorem renUp_length (to : List Int) (ps : List Part) (i : Nat) : (renUp to ps i).length = ps.length := by simp [renUp]; omega
theorem renUp_zero (to : List Int) (ps : List Part) : renUp to ps 0 = ps := by simp [renUp]
theorem renUp_all (to : List Int) (ps : List Part) : renUp to ps ps.length = ps.map (renP to) := by simp [renUp]
theorem renUp_get (to : List Int) (ps : List Part) (i : Nat) (h : i < (renUp to ps i).length) : (renUp to ps i)[i] = ps[i]'(by rwa [renUp_length] at h) := by
  have h' : i < ps.length := by rwa [renUp_length] at h
  simp only [renUp]
  rw [List.getElem_append_right (by simp; omega)]
  simp only [List.length_map, List.length_take, List.getElem_drop]
  congr 1
  omega
theorem renUp_succ (to : List Int) (ps : List Part) (i : Nat) (h : i < ps.length) : renUp to ps (i + 1) = (ps.take i).map (renP to) ++ renP to ps[i] :: ps.drop (i + 1) := by
  unfold renUp
  rw [List.take_succ_eq_append_getElem h, List.map_append, List.append_assoc]
  rfl
theorem renUp_set (to : List Int) (ps : List Part) (i : Nat) (h : i < ps.length) (p : Part) : (renUp to ps i).set i p = (ps.take i).map (renP to) ++ p :: ps.drop (i + 1) := by
  unfold renUp
  rw [List.set_append, if_neg (by simp; omega)]
  congr 1
  rw [← List.getElem_cons_drop h]
  have : i - (List.map (renP to) (List.take i ps)).length = 0 := by simp; omega
  rw [this]
  rfl
theorem renUp_put (to : List Int) (ps : List Part) (i : Nat) (h : i < ps.length) (hk : ps[i].kind = 1) : (renUp to ps i).set i (ps[i].put 4 (at0 to ps[i].n.toNat)) = renUp to ps (i + 1) := by
  rw [renUp_succ _ _ _ h, renUp_set _ _ _ h]
  simp [renP, hk]
theorem renUp_skip (to : List Int) (ps : List Part) (i : Nat) (h : i < ps.length) (hk : ¬ ps[i].kind = 1) : renUp to ps i = renUp to ps (i + 1) := by
  rw [renUp_succ _ _ _ h]
  unfold renUp
  congr 1
  rw [← List.getElem_cons_drop h]
  simp [renP, hk]
def RenOk (ps : List Part) (to : List Int) : Prop := ValidP ps ∧ to.length ≤ 10 ∧ (∀ x ∈ to, 0 ≤ x ∧ x ≤ 9) ∧ ∀ i (h : i < ps.length), ps[i].kind = 1 → ps[i].n < to.length
open Classical in
noncomputable def renL (ps : List Part) (to : List Int) : List Part := if RenOk ps to then ps.map (renP to) else []
theorem renL_ok {ps : List Part} {to : List Int} (h : RenOk ps to) : renL ps to = ps.map (renP to) := if_pos h
theorem renL_no {ps : List Part} {to : List Int} (h : ¬ RenOk ps to) : renL ps to = [] := if_neg h
theorem renL_length {ps : List Part} {to : List Int} : (renL ps to).length ≤ 12 := by
  by_cases h : RenOk ps to
  · rw [renL_ok h]; simp; exact h.1.2.1
  · rw [renL_no h]; simp
theorem ValidP.reads {ps : List Part} (h : ValidP ps) {i : Nat} (hi : i < ps.length) (hk : ps[i].kind = 1) : 0 ≤ ps[i].n ∧ ps[i].n ≤ 9 := by
  have := h.fit ps[i] (List.getElem_mem hi) hk
  omega
noncomputable def mayV (ps : List Part) : List Int := if validF ps then mayL ps else []
theorem mayV_yes {ps : List Part} (h : validF ps = true) : mayV ps = mayL ps := by simp [mayV, h]
theorem mayV_no {ps : List Part} (h : validF ps = false) : mayV ps = [] := by simp [mayV, h]
theorem mayV_length (ps : List Part) : (mayV ps).length ≤ 10 := by
  unfold mayV
  split
  · exact mayL_length ps
  · simp
theorem asc_mayV (ps : List Part) : Asc (mayV ps) := by
  unfold mayV
  split
  · exact asc_mayL ps
  · exact List.Pairwise.nil
/-- each node by itself -/
def sames : List Int := (List.range 10).map (fun (k : Nat) => (k : Int))
theorem renL_same {ps : List Part} (h : ValidP ps) : renL ps sames = ps := by
  have hat : ∀ n : Int, 0 ≤ n → n ≤ 9 → at0 sames n.toNat = n := by
    intro n h0 h1
    have : n.toNat < 10 := by omega
    simp [at0, sames, List.getD_eq_getElem?_getD, List.getElem?_map, List.getElem?_range this]
    omega
  rw [renL_ok ⟨h, by simp [sames], fun x hx => by simp [sames] at hx; omega, fun i hi hk => by have := h.reads hi hk; simp [sames]; omega⟩]
  apply List.ext_getElem (by simp)
  intro i h1 h2
  rw [List.getElem_map]
  unfold renP
  split
  · rename_i hk
    have := h.reads h2 hk
    rw [hat _ this.1 this.2]
    rfl
  · rfl
end SG

/- Plain data: the value of a formula, and what is read for it. No program here. -/
namespace SG
set_option linter.unusedSimpArgs false
set_option linter.unusedVariables false
def joinI (k x y : Int) : Int :=
  if k = 2 then (x + y) % 1000 else if k = 3 then (x - y + 1000) % 1000 else if k = 4 then x * y % 1000
  else if k = 5 then (if y < x then y else x) else if k = 6 then (if x < y then y else x) else if x < y then 1 else 0
def InMod (x : Int) : Prop := 0 ≤ x ∧ x ≤ 999
theorem joinI_in {k x y : Int} (hx : InMod x) (hy : InMod y) : InMod (joinI k x y) := by
  obtain ⟨x0, x1⟩ := hx
  obtain ⟨y0, y1⟩ := hy
  unfold joinI InMod
  (repeat' split) <;> first | omega | exact ⟨Int.emod_nonneg _ (by decide), by have := Int.emod_lt_of_pos (x * y) (show (0 : Int) < 1000 by decide); omega⟩
def evL (ps : List Part) (vals : Int → Int) (i : Nat) : Int × List Int :=
  match ps[i]? with
  | none => (0, [])
  | some p =>
    if p.kind = 0 then (p.n, [])
    else if p.kind = 1 then (vals p.n, [p.n])
    else if h : p.a.toNat < i ∧ p.b.toNat < i ∧ p.c.toNat < i then
      let x := evL ps vals p.a.toNat
      if p.kind = 8 then
        let y := if x.1 ≠ 0 then evL ps vals p.b.toNat else evL ps vals p.c.toNat
        (y.1, x.2 ++ y.2)
      else
        let y := evL ps vals p.b.toNat
        (joinI p.kind x.1 y.1, x.2 ++ y.2)
    else (0, [])
termination_by i
decreasing_by all_goals omega
section
variable {ps : List Part} {vals : Int → Int} {i : Nat}
theorem evL_num (hi : i < ps.length) (hk : ps[i].kind = 0) : evL ps vals i = (ps[i].n, []) := by
  rw [evL, List.getElem?_eq_getElem hi]; simp [hk]
theorem evL_read (hi : i < ps.length) (hk : ps[i].kind = 1) : evL ps vals i = (vals ps[i].n, [ps[i].n]) := by
  rw [evL, List.getElem?_eq_getElem hi]; simp [hk]
theorem good_kind {p : Part} {i : Nat} (h : GoodAt p i) : p.kind = 0 ∨ p.kind = 1 ∨ (2 ≤ p.kind ∧ p.kind ≤ 7) ∨ p.kind = 8 := by
  have h1 := h.1
  by_cases k0 : p.kind = 0
  · exact .inl k0
  by_cases k1 : p.kind = 1
  · exact .inr (.inl k1)
  by_cases k8 : p.kind = 8
  · exact .inr (.inr (.inr k8))
  by_cases k2 : 2 ≤ p.kind ∧ p.kind ≤ 7
  · exact .inr (.inr (.inl k2))
  · simp [aloneB, k0, k1, k8, inB_not.2 k2] at h1
theorem good_bin {p : Part} {i : Nat} (h : GoodAt p i) (h0 : p.kind ≠ 0) (h1 : p.kind ≠ 1) (h8 : p.kind ≠ 8) : (2 ≤ p.kind ∧ p.kind ≤ 7) ∧ p.c = -1 ∧ p.n = 0 ∧ (0 ≤ p.a ∧ p.a < i) ∧ (0 ≤ p.b ∧ p.b < i) := by
  have hk : 2 ≤ p.kind ∧ p.kind ≤ 7 := by rcases good_kind h with h | h | h | h <;> omega
  have hin := inB_iff.2 hk
  have hb : belowL p = [p.a, p.b] := by simp [belowL, h8, hin]
  have ha := h.1
  simp [aloneB, h0, h1, h8, hin] at ha
  exact ⟨hk, ha.2, ha.1, h.2 _ (by rw [hb]; simp), h.2 _ (by rw [hb]; simp)⟩
theorem good_if {p : Part} {i : Nat} (h : GoodAt p i) (h8 : p.kind = 8) : p.n = 0 ∧ (0 ≤ p.a ∧ p.a < i) ∧ (0 ≤ p.b ∧ p.b < i) ∧ (0 ≤ p.c ∧ p.c < i) := by
  have hb : belowL p = [p.a, p.b, p.c] := by simp [belowL, h8]
  have ha := h.1
  simp [aloneB, h8] at ha
  exact ⟨ha, h.2 _ (by rw [hb]; simp), h.2 _ (by rw [hb]; simp), h.2 _ (by rw [hb]; simp)⟩
theorem evL_bin (hi : i < ps.length) (hg : GoodAt ps[i] i) (h0 : ps[i].kind ≠ 0) (h1 : ps[i].kind ≠ 1) (h8 : ps[i].kind ≠ 8) :
    evL ps vals i = (joinI ps[i].kind (evL ps vals ps[i].a.toNat).1 (evL ps vals ps[i].b.toNat).1, (evL ps vals ps[i].a.toNat).2 ++ (evL ps vals ps[i].b.toNat).2) := by
  obtain ⟨_, hc, _, ha, hb⟩ := good_bin hg h0 h1 h8
  conv => lhs; rw [evL, List.getElem?_eq_getElem hi]
  simp only [h0, h1, h8, if_false]
  rw [dif_pos ⟨by omega, by omega, by omega⟩]
theorem evL_if (hi : i < ps.length) (hg : GoodAt ps[i] i) (h8 : ps[i].kind = 8) (hx : (evL ps vals ps[i].a.toNat).1 ≠ 0) :
    evL ps vals i = ((evL ps vals ps[i].b.toNat).1, (evL ps vals ps[i].a.toNat).2 ++ (evL ps vals ps[i].b.toNat).2) := by
  obtain ⟨_, ha, hb, hc⟩ := good_if hg h8
  conv => lhs; rw [evL, List.getElem?_eq_getElem hi]
  simp only [h8]
  rw [dif_pos ⟨by omega, by omega, by omega⟩]
  simp [hx]
theorem evL_else (hi : i < ps.length) (hg : GoodAt ps[i] i) (h8 : ps[i].kind = 8) (hx : (evL ps vals ps[i].a.toNat).1 = 0) :
    evL ps vals i = ((evL ps vals ps[i].c.toNat).1, (evL ps vals ps[i].a.toNat).2 ++ (evL ps vals ps[i].c.toNat).2) := by
  obtain ⟨_, ha, hb, hc⟩ := good_if hg h8
  conv => lhs; rw [evL, List.getElem?_eq_getElem hi]
  simp only [h8]
  rw [dif_pos ⟨by omega, by omega, by omega⟩]
  simp [hx]
/-- the induction over a valid formula -/
theorem part_cases (hv : ∀ i (h : i < ps.length), GoodAt ps[i] i) (hi : i < ps.length) : ps[i].kind = 0 ∨ ps[i].kind = 1 ∨ (ps[i].kind = 8) ∨ (ps[i].kind ≠ 0 ∧ ps[i].kind ≠ 1 ∧ ps[i].kind ≠ 8) := by omega
theorem evL_in (hv : ∀ i (h : i < ps.length), GoodAt ps[i] i) (hvals : ∀ p ∈ ps, p.kind = 1 → InMod (vals p.n)) : ∀ (i : Nat), i < ps.length → InMod (evL ps vals i).1 := by
  intro i
  induction i using Nat.strongRecOn with
  | _ i ih =>
    intro hi
    have hg := hv i hi
    rcases part_cases hv hi with h | h | h | ⟨h0, h1, h8⟩
    · rw [evL_num hi h]
      have := hg.1
      simp [aloneB, h, inB] at this
      exact ⟨by dsimp only; omega, by dsimp only; omega⟩
    · rw [evL_read hi h]; exact hvals _ (List.getElem_mem hi) h
    · obtain ⟨_, ha, hb, hc⟩ := good_if hg h
      by_cases hx : (evL ps vals ps[i].a.toNat).1 = 0
      · rw [evL_else hi hg h hx]; exact ih _ (by omega) (by omega)
      · rw [evL_if hi hg h hx]; exact ih _ (by omega) (by omega)
    · obtain ⟨_, _, _, ha, hb⟩ := good_bin hg h0 h1 h8
      rw [evL_bin hi hg h0 h1 h8]
      exact joinI_in (ih _ (by omega) (by omega)) (ih _ (by omega) (by omega))
theorem evL_sub (hv : ∀ i (h : i < ps.length), GoodAt ps[i] i) : ∀ (i : Nat), i < ps.length → ∀ n ∈ (evL ps vals i).2, ∃ p ∈ ps, p.kind = 1 ∧ p.n = n := by
  intro i
  induction i using Nat.strongRecOn with
  | _ i ih =>
    intro hi n hn
    have hg := hv i hi
    rcases part_cases hv hi with h | h | h | ⟨h0, h1, h8⟩
    · rw [evL_num hi h] at hn; simp at hn
    · rw [evL_read hi h] at hn
      simp only [List.mem_singleton] at hn
      exact ⟨_, List.getElem_mem hi, h, hn.symm⟩
    · obtain ⟨_, ha, hb, hc⟩ := good_if hg h
      by_cases hx : (evL ps vals ps[i].a.toNat).1 = 0
      · rw [evL_else hi hg h hx] at hn
        rcases List.mem_append.1 hn with hn | hn
        · exact ih _ (by omega) (by omega) n hn
        · exact ih _ (by omega) (by omega) n hn
      · rw [evL_if hi hg h hx] at hn
        rcases List.mem_append.1 hn with hn | hn
        · exact ih _ (by omega) (by omega) n hn
        · exact ih _ (by omega) (by omega) n hn
    · obtain ⟨_, _, _, ha, hb⟩ := good_bin hg h0 h1 h8
      rw [evL_bin hi hg h0 h1 h8] at hn
      rcases List.mem_append.1 hn with hn | hn
      · exact ih _ (by omega) (by omega) n hn
      · exact ih _ (by omega) (by omega) n hn
theorem evL_len (hv : ∀ i (h : i < ps.length), GoodAt ps[i] i) : ∀ (i : Nat), i < ps.length → (evL ps vals i).2.length ≤ 2 ^ i := by
  intro i
  induction i using Nat.strongRecOn with
  | _ i ih =>
    intro hi
    have hg := hv i hi
    have two : ∀ a b : Nat, a < i → b < i → 2 ^ a + 2 ^ b ≤ 2 ^ i := by
      intro a b ha hb
      obtain ⟨j, rfl⟩ : ∃ j, i = j + 1 := ⟨i - 1, by omega⟩
      have h1 := Nat.pow_le_pow_right (show 0 < 2 by decide) (show a ≤ j by omega)
      have h2 := Nat.pow_le_pow_right (show 0 < 2 by decide) (show b ≤ j by omega)
      rw [Nat.pow_succ]; omega
    rcases part_cases hv hi with h | h | h | ⟨h0, h1, h8⟩
    · rw [evL_num hi h]; simp
    · rw [evL_read hi h]; simpa using Nat.one_le_two_pow
    · obtain ⟨_, ha, hb, hc⟩ := good_if hg h
      have ia := ih ps[i].a.toNat (by omega) (by omega)
      have ib := ih ps[i].b.toNat (by omega) (by omega)
      have ic := ih ps[i].c.toNat (by omega) (by omega)
      have t1 := two ps[i].a.toNat ps[i].b.toNat (by omega) (by omega)
      have t2 := two ps[i].a.toNat ps[i].c.toNat (by omega) (by omega)
      by_cases hx : (evL ps vals ps[i].a.toNat).1 = 0
      · rw [evL_else hi hg h hx]; simp only [List.length_append]; omega
      · rw [evL_if hi hg h hx]; simp only [List.length_append]; omega
    · obtain ⟨_, _, _, ha, hb⟩ := good_bin hg h0 h1 h8
      have ia := ih ps[i].a.toNat (by omega) (by omega)
      have ib := ih ps[i].b.toNat (by omega) (by omega)
      have t1 := two ps[i].a.toNat ps[i].b.toNat (by omega) (by omega)
      rw [evL_bin hi hg h0 h1 h8]; simp only [List.length_append]; omega
/-- only the values of what is read count -/
theorem evL_congr {vals' : Int → Int} (hv : ∀ i (h : i < ps.length), GoodAt ps[i] i) : ∀ (i : Nat), i < ps.length → (∀ n ∈ (evL ps vals i).2, vals' n = vals n) → evL ps vals' i = evL ps vals i := by
  intro i
  induction i using Nat.strongRecOn with
  | _ i ih =>
    intro hi hn
    have hg := hv i hi
    rcases part_cases hv hi with h | h | h | ⟨h0, h1, h8⟩
    · rw [evL_num hi h, evL_num hi h]
    · rw [evL_read hi h] at hn
      rw [evL_read hi h, evL_read hi h, hn _ (by simp)]
    · obtain ⟨_, ha, hb, hc⟩ := good_if hg h
      by_cases hx : (evL ps vals ps[i].a.toNat).1 = 0
      · rw [evL_else hi hg h hx] at hn
        have ea := ih ps[i].a.toNat (by omega) (by omega) (fun n h => hn n (List.mem_append_left _ h))
        have ec := ih ps[i].c.toNat (by omega) (by omega) (fun n h => hn n (List.mem_append_right _ h))
        rw [evL_else hi hg h hx, evL_else hi hg h (by rw [ea]; exact hx), ea, ec]
      · rw [evL_if hi hg h hx] at hn
        have ea := ih ps[i].a.toNat (by omega) (by omega) (fun n h => hn n (List.mem_append_left _ h))
        have eb := ih ps[i].b.toNat (by omega) (by omega) (fun n h => hn n (List.mem_append_right _ h))
        rw [evL_if hi hg h hx, evL_if hi hg h (by rw [ea]; exact hx), ea, eb]
    · obtain ⟨_, _, _, ha, hb⟩ := good_bin hg h0 h1 h8
      rw [evL_bin hi hg h0 h1 h8] at hn
      have ea := ih ps[i].a.toNat (by omega) (by omega) (fun n h => hn n (List.mem_append_left _ h))
      have eb := ih ps[i].b.toNat (by omega) (by omega) (fun n h => hn n (List.mem_append_right _ h))
      rw [evL_bin hi hg h0 h1 h8, evL_bin hi hg h0 h1 h8, ea, eb]
end
/-- a number added, if it is not there -/
def addR (rs : List Int) (n : Int) : List Int := if rs.contains n then rs else rs ++ [n]
def addAll (rs ns : List Int) : List Int := ns.foldl addR rs
theorem addAll_append (rs ns ms : List Int) : addAll rs (ns ++ ms) = addAll (addAll rs ns) ms := by simp [addAll]
theorem mem_addR {rs : List Int} {n x : Int} : x ∈ addR rs n ↔ x ∈ rs ∨ x = n := by
  unfold addR
  split
  · rename_i h
    have : n ∈ rs := by simpa using h
    constructor
    · exact .inl
    · rintro (h | rfl)
      · exact h
      · exact this
  · simp
theorem mem_addAll {ns : List Int} : ∀ {rs : List Int} {x : Int}, x ∈ addAll rs ns ↔ x ∈ rs ∨ x ∈ ns := by
  induction ns with
  | nil => intro rs x; simp [addAll]
  | cons n ns ih =>
    intro rs x
    show x ∈ addAll (addR rs n) ns ↔ _
    rw [ih, mem_addR]
    simp only [List.mem_cons]
    constructor
    · rintro ((h | h) | h)
      · exact .inl h
      · exact .inr (.inl h)
      · exact .inr (.inr h)
    · rintro (h | h | h)
      · exact .inl (.inl h)
      · exact .inl (.inr h)
      · exact .inr h
theorem addR_length (rs : List Int) (n : Int) : (addR rs n).length ≤ rs.length + 1 := by
  unfold addR
  split
  · omega
  · simp
theorem addAll_length (ns : List Int) : ∀ (rs : List Int), (addAll rs ns).length ≤ rs.length + ns.length := by
  induction ns with
  | nil => intro rs; simp [addAll]
  | cons n ns ih =>
    intro rs
    have h1 := ih (addR rs n)
    have h2 := addR_length rs n
    show (addAll (addR rs n) ns).length ≤ _
    simp only [List.length_cons]
    omega
theorem addR_nodup {rs : List Int} {n : Int} (h : rs.Nodup) : (addR rs n).Nodup := by
  unfold addR
  split
  · exact h
  · rename_i hn
    have : n ∉ rs := by simpa using hn
    rw [List.nodup_append]
    refine ⟨h, by simp, fun a ha b hb => ?_⟩
    simp only [List.mem_singleton] at hb
    subst hb
    exact fun e => this (e ▸ ha)
theorem addAll_nodup {ns : List Int} : ∀ {rs : List Int}, rs.Nodup → (addAll rs ns).Nodup := by
  induction ns with
  | nil => intro rs h; exact h
  | cons n ns ih => intro rs h; exact ih (addR_nodup h)
def readL (ps : List Part) (vals : Int → Int) : List Int := addAll [] (evL ps vals (ps.length - 1)).2
def valL (ps : List Part) (vals : Int → Int) : Int := (evL ps vals (ps.length - 1)).1
/-- the numbers of a list as values of nodes -/
def valF (xs : List Int) (n : Int) : Int := at0 xs n.toNat
def FitV (ps : List Part) (xs : List Int) : Prop := ValidP ps ∧ xs.length ≤ 10 ∧ (∀ x ∈ xs, InMod x) ∧ ∀ k ∈ mayL ps, k < xs.length
open Classical in
noncomputable def fitV (ps : List Part) (xs : List Int) : Bool := decide (FitV ps xs)
theorem fitV_iff {ps : List Part} {xs : List Int} : fitV ps xs = true ↔ FitV ps xs := by simp [fitV]
theorem fitV_not {ps : List Part} {xs : List Int} : fitV ps xs = false ↔ ¬ FitV ps xs := by simp [fitV]
theorem nodup_lt : ∀ (m : Nat) {rs : List Int}, rs.Nodup → (∀ x ∈ rs, 0 ≤ x ∧ x < m) → rs.length ≤ m := by
  intro m
  induction m with
  | zero =>
    intro rs _ hb
    cases rs with
    | nil => simp
    | cons x xs => have := hb x (by simp); omega
  | succ m ih =>
    intro rs hn hb
    by_cases hm : (m : Int) ∈ rs
    · have h1 := ih (rs := rs.erase m) (hn.erase _) (fun x hx => by
        have h2 := (hn.mem_erase_iff).1 hx
        have := hb x h2.2
        have : x ≠ m := h2.1
        omega)
      rw [List.length_erase_of_mem hm] at h1
      omega
    · have := ih hn (fun x hx => by
        have := hb x hx
        have : x ≠ m := fun e => hm (e ▸ hx)
        omega)
      omega
theorem nodup_le {rs : List Int} (h : rs.Nodup) (hb : ∀ x ∈ rs, 0 ≤ x ∧ x ≤ 9) : rs.length ≤ 10 := nodup_lt 10 h (fun x hx => by have := hb x hx; omega)
end SG

/- Plain data: the parts of a formula in order. No program here. -/
namespace SG
set_option linter.unusedSimpArgs false
set_option linter.unusedVariables false
def putS (f : Nat → List Part → List Part) : List Int → Nat → Part × List Part → Part × List Part
  | [], _, s => s
  | k :: ks, x, s => putS f ks (x + 1) (s.1.put (x + 1) ((f k.toNat s.2).length - 1 : Int), f k.toNat s.2)
def putL (ps : List Part) : Nat → Nat → List Part → List Part
  | 0, _, out => out
  | f + 1, i, out => match ps[i]? with
    | none => out
    | some p => (putS (putL ps f) (belowL p) 0 (p, out)).2 ++ [(putS (putL ps f) (belowL p) 0 (p, out)).1]
theorem putS_append (f : Nat → List Part → List Part) : ∀ (ks : List Int) (k : Int) (x : Nat) (s : Part × List Part), putS f (ks ++ [k]) x s = ((putS f ks x s).1.put (x + ks.length + 1) ((f k.toNat (putS f ks x s).2).length - 1 : Int), f k.toNat (putS f ks x s).2)
  | [], k, x, s => rfl
  | j :: ks, k, x, s => by
    show putS f (ks ++ [k]) (x + 1) _ = _
    rw [putS_append f ks k (x + 1)]
    simp only [List.length_cons]
    rw [show x + 1 + ks.length + 1 = x + (ks.length + 1) + 1 by omega]
    rfl
theorem putL_some {ps : List Part} {f i : Nat} {out : List Part} (h : i < ps.length) : putL ps (f + 1) i out = (putS (putL ps f) (belowL ps[i]) 0 (ps[i], out)).2 ++ [(putS (putL ps f) (belowL ps[i]) 0 (ps[i], out)).1] := by
  rw [putL, List.getElem?_eq_getElem h]
theorem putS_bound {f : Nat → List Part → List Part} {m : Nat} (hf : ∀ i out, (f i out).length ≤ out.length + m) : ∀ (ks : List Int) (x : Nat) (s : Part × List Part), (putS f ks x s).2.length ≤ s.2.length + ks.length * m
  | [], x, s => by simp [putS]
  | k :: ks, x, s => by
    have h1 := putS_bound hf ks (x + 1) (s.1.put (x + 1) ((f k.toNat s.2).length - 1 : Int), f k.toNat s.2)
    have h2 := hf k.toNat s.2
    show (putS f ks (x + 1) _).2.length ≤ _
    simp only [List.length_cons, Nat.add_mul]
    dsimp only at h1
    omega
theorem putL_bound (ps : List Part) : ∀ (f i : Nat) (out : List Part), (putL ps f i out).length ≤ out.length + 4 ^ f
  | 0, i, out => by simp [putL]
  | f + 1, i, out => by
    rw [putL]
    have e : 4 ^ (f + 1) = 4 * 4 ^ f := by rw [Nat.pow_succ]; omega
    have e1 : 1 ≤ 4 ^ f := Nat.one_le_pow _ _ (by decide)
    split
    · omega
    · rename_i p _
      have h1 := putS_bound (fun j o => putL_bound ps f j o) (belowL p) 0 (p, out)
      have h2 := belowL_short p
      have h3 : (belowL p).length * 4 ^ f ≤ 3 * 4 ^ f := Nat.mul_le_mul_right _ h2
      simp only [List.length_append, List.length_cons, List.length_nil]
      dsimp only at h1
      omega
/-! the parts that are put, by where they begin -/
def treeS (f : Nat → Nat → List Part) : List Int → Nat → Part → Nat → Part × List Part
  | [], _, p, _ => (p, [])
  | k :: ks, x, p, b => ((treeS f ks (x + 1) (p.put (x + 1) ((b + (f k.toNat b).length : Nat) - 1 : Int)) (b + (f k.toNat b).length)).1, f k.toNat b ++ (treeS f ks (x + 1) (p.put (x + 1) ((b + (f k.toNat b).length : Nat) - 1 : Int)) (b + (f k.toNat b).length)).2)
def treeL (ps : List Part) : Nat → Nat → Nat → List Part
  | 0, _, _ => []
  | f + 1, i, b => match ps[i]? with
    | none => []
    | some p => (treeS (treeL ps f) (belowL p) 0 p b).2 ++ [(treeS (treeL ps f) (belowL p) 0 p b).1]
theorem putS_tree {f : Nat → List Part → List Part} {t : Nat → Nat → List Part} (hft : ∀ i out, f i out = out ++ t i out.length) : ∀ (ks : List Int) (x : Nat) (p : Part) (out : List Part), putS f ks x (p, out) = ((treeS t ks x p out.length).1, out ++ (treeS t ks x p out.length).2)
  | [], x, p, out => by simp [putS, treeS]
  | k :: ks, x, p, out => by
    have h1 := putS_tree hft ks (x + 1) (p.put (x + 1) ((f k.toNat out).length - 1 : Int)) (f k.toNat out)
    show putS f ks (x + 1) _ = _
    rw [h1]
    have e : (f k.toNat out).length = out.length + (t k.toNat out.length).length := by rw [hft]; simp
    rw [e]
    conv => lhs; rw [hft k.toNat out]
    simp [treeS]
theorem putL_tree (ps : List Part) : ∀ (f i : Nat) (out : List Part), putL ps f i out = out ++ treeL ps f i out.length
  | 0, i, out => by simp [putL, treeL]
  | f + 1, i, out => by
    rw [putL, treeL]
    split
    · simp
    · rename_i p _
      rw [putS_tree (fun j o => putL_tree ps f j o) (belowL p) 0 p out]
      simp
theorem treeL_some {ps : List Part} {f i b : Nat} (h : i < ps.length) : treeL ps (f + 1) i b = (treeS (treeL ps f) (belowL ps[i]) 0 ps[i] b).2 ++ [(treeS (treeL ps f) (belowL ps[i]) 0 ps[i] b).1] := by
  rw [treeL, List.getElem?_eq_getElem h]
/-- a tree that stands from b on -/
structure Stands (T : List Part) (b : Nat) : Prop where
  pos : 0 < T.length
  good : ∀ j (h : j < T.length), GoodAt T[j] (b + j)
  low : ∀ p ∈ T, ∀ k ∈ belowL p, (b : Int) ≤ k
  count : ∀ k : Nat, (T.flatMap belowL).count (k : Int) = if b ≤ k ∧ k + 1 < b + T.length then 1 else 0
theorem belowL_if {p : Part} (h : p.kind = 8) : belowL p = [p.a, p.b, p.c] := by simp [belowL, h]
theorem belowL_bin {p : Part} (h : 2 ≤ p.kind ∧ p.kind ≤ 7) : belowL p = [p.a, p.b] := by
  have := inB_iff.2 h
  simp [belowL, show p.kind ≠ 8 by omega, this]
theorem belowL_leaf {p : Part} (h : p.kind = 0 ∨ p.kind = 1) : belowL p = [] := by
  rcases h with h | h <;> simp [belowL, h, inB]
theorem good_append {S T : List Part} {b : Nat} (hS : ∀ j (h : j < S.length), GoodAt S[j] (b + j)) (hT : ∀ j (h : j < T.length), GoodAt T[j] (b + S.length + j)) : ∀ j (h : j < (S ++ T).length), GoodAt (S ++ T)[j] (b + j) := by
  intro j h
  by_cases hj : j < S.length
  · rw [List.getElem_append_left hj]; exact hS j hj
  · rw [List.getElem_append_right (by omega)]
    have := hT (j - S.length) (by simp at h; omega)
    rwa [show b + S.length + (j - S.length) = b + j by omega] at this
theorem count_one (x k : Int) : [x].count k = if x = k then 1 else 0 := by simp [List.count_cons]
theorem treeL_stands {ps : List Part} (hv : ∀ i (h : i < ps.length), GoodAt ps[i] i) : ∀ (f i b : Nat), i < f → i < ps.length → Stands (treeL ps f i b) b := by
  intro f
  induction f with
  | zero => intro i b h _; omega
  | succ f ih =>
    intro i b hif hi
    have hg := hv i hi
    rw [treeL_some hi]
    rcases good_kind hg with h | h | h | h
    · have hb := belowL_leaf (.inl h)
      rw [hb]
      simp only [treeS, List.nil_append]
      refine ⟨by simp, fun j hj => ?_, fun p hp k hk => ?_, fun k => ?_⟩
      · simp only [List.length_singleton] at hj
        have : j = 0 := by omega
        subst this
        exact ⟨hg.1, fun k hk => by simp only [List.getElem_singleton] at hk; rw [hb] at hk; cases hk⟩
      · simp only [List.mem_singleton] at hp; subst hp; rw [hb] at hk; cases hk
      · simp [hb]
    · have hb := belowL_leaf (.inr h)
      rw [hb]
      simp only [treeS, List.nil_append]
      refine ⟨by simp, fun j hj => ?_, fun p hp k hk => ?_, fun k => ?_⟩
      · simp only [List.length_singleton] at hj
        have : j = 0 := by omega
        subst this
        exact ⟨hg.1, fun k hk => by simp only [List.getElem_singleton] at hk; rw [hb] at hk; cases hk⟩
      · simp only [List.mem_singleton] at hp; subst hp; rw [hb] at hk; cases hk
      · simp [hb]
    · have hb := belowL_bin h
      obtain ⟨_, hc, hn, ha1, hb1⟩ := good_bin hg (by omega) (by omega) (by omega)
      rw [hb]
      simp only [treeS, List.append_nil]
      have sA := ih ps[i].a.toNat b (by omega) (by omega)
      generalize hA : treeL ps f ps[i].a.toNat b = TA at *
      have sB := ih ps[i].b.toNat (b + TA.length) (by omega) (by omega)
      generalize hB : treeL ps f ps[i].b.toNat (b + TA.length) = TB at *
      generalize hq : (Part.put (Part.put ps[i] (0 + 1) ((b + TA.length : Nat) - 1 : Int)) (0 + 1 + 1) ((b + TA.length + TB.length : Nat) - 1 : Int)) = q
      have qk : q.kind = ps[i].kind := by rw [← hq]; rfl
      have qn : q.n = ps[i].n := by rw [← hq]; rfl
      have qc : q.c = ps[i].c := by rw [← hq]; rfl
      have qa : q.a = ((b + TA.length : Nat) - 1 : Int) := by rw [← hq]; rfl
      have qb : q.b = ((b + TA.length + TB.length : Nat) - 1 : Int) := by rw [← hq]; rfl
      have hqb : belowL q = [q.a, q.b] := belowL_bin (by omega)
      have pA := sA.pos
      have pB := sB.pos
      refine ⟨by simp; omega, ?_, fun p hp k hk => ?_, fun k => ?_⟩
      · rw [List.append_assoc]
        refine good_append sA.good (good_append sB.good fun j hj => ?_)
        simp only [List.length_singleton] at hj
        have : j = 0 := by omega
        subst this
        simp only [List.getElem_singleton]
        have hin : inB q.kind 2 7 = true := inB_iff.2 (by omega)
        refine ⟨by simp [aloneB, show q.kind ≠ 0 by omega, show q.kind ≠ 1 by omega, show q.kind ≠ 8 by omega, hin, qn, hn, qc, hc], fun k hk => ?_⟩
        rw [hqb, qa, qb] at hk
        simp only [List.mem_cons, List.not_mem_nil, or_false] at hk
        omega
      · simp only [List.mem_append, List.mem_singleton] at hp
        rcases hp with (hp | hp) | hp
        · exact sA.low p hp k hk
        · have := sB.low p hp k hk; omega
        · subst hp
          rw [hqb, qa, qb] at hk
          simp only [List.mem_cons, List.not_mem_nil, or_false] at hk
          omega
      · have cA := sA.count k
        have cB := sB.count k
        simp only [List.flatMap_append, List.count_append, cA, cB, List.flatMap_cons, List.flatMap_nil, List.append_nil, hqb, List.count_cons, List.count_nil, List.length_append, List.length_cons, List.length_nil, beq_iff_eq, qa, qb]
        (repeat' split) <;> omega
    · have hb := belowL_if h
      obtain ⟨hn, ha1, hb1, hc1⟩ := good_if hg h
      rw [hb]
      simp only [treeS, List.append_nil]
      have sA := ih ps[i].a.toNat b (by omega) (by omega)
      generalize hA : treeL ps f ps[i].a.toNat b = TA at *
      have sB := ih ps[i].b.toNat (b + TA.length) (by omega) (by omega)
      generalize hB : treeL ps f ps[i].b.toNat (b + TA.length) = TB at *
      have sC := ih ps[i].c.toNat (b + TA.length + TB.length) (by omega) (by omega)
      generalize hC : treeL ps f ps[i].c.toNat (b + TA.length + TB.length) = TC at *
      generalize hq : (Part.put (Part.put (Part.put ps[i] (0 + 1) ((b + TA.length : Nat) - 1 : Int)) (0 + 1 + 1) ((b + TA.length + TB.length : Nat) - 1 : Int)) (0 + 1 + 1 + 1) ((b + TA.length + TB.length + TC.length : Nat) - 1 : Int)) = q
      have qk : q.kind = ps[i].kind := by rw [← hq]; rfl
      have qn : q.n = ps[i].n := by rw [← hq]; rfl
      have qa : q.a = ((b + TA.length : Nat) - 1 : Int) := by rw [← hq]; rfl
      have qb : q.b = ((b + TA.length + TB.length : Nat) - 1 : Int) := by rw [← hq]; rfl
      have qc : q.c = ((b + TA.length + TB.length + TC.length : Nat) - 1 : Int) := by rw [← hq]; rfl
      have hqb : belowL q = [q.a, q.b, q.c] := belowL_if (by omega)
      have pA := sA.pos
      have pB := sB.pos
      have pC := sC.pos
      refine ⟨by simp; omega, ?_, fun p hp k hk => ?_, fun k => ?_⟩
      · rw [List.append_assoc, List.append_assoc]
        refine good_append sA.good (good_append sB.good (good_append sC.good fun j hj => ?_))
        simp only [List.length_singleton] at hj
        have : j = 0 := by omega
        subst this
        simp only [List.getElem_singleton]
        refine ⟨by simp [aloneB, show q.kind = 8 by omega, qn, hn], fun k hk => ?_⟩
        rw [hqb, qa, qb, qc] at hk
        simp only [List.mem_cons, List.not_mem_nil, or_false] at hk
        omega
      · simp only [List.mem_append, List.mem_singleton] at hp
        rcases hp with (hp | hp | hp) | hp
        · exact sA.low p hp k hk
        · have := sB.low p hp k hk; omega
        · have := sC.low p hp k hk; omega
        · subst hp
          rw [hqb, qa, qb, qc] at hk
          simp only [List.mem_cons, List.not_mem_nil, or_false] at hk
          omega
      · have cA := sA.count k
        have cB := sB.count k
        have cC := sC.count k
        simp only [List.flatMap_append, List.count_append, cA, cB, cC, List.flatMap_cons, List.flatMap_nil, List.append_nil, hqb, List.count_cons, List.count_nil, List.length_append, List.length_cons, List.length_nil, beq_iff_eq, qa, qb, qc]
        (repeat' split) <;> omega
/-! how many parts are put -/
theorem treeS_len {t : Nat → Nat → List Part} {m : Nat → Nat} : ∀ (ks : List Int) (x : Nat) (p : Part) (b : Nat), (∀ k ∈ ks, ∀ b, (t k.toNat b).length = m k.toNat) → (treeS t ks x p b).2.length = (ks.map fun k => m k.toNat).sum
  | [], x, p, b, _ => rfl
  | k :: ks, x, p, b, h => by
    have h1 := treeS_len ks (x + 1) (p.put (x + 1) ((b + (t k.toNat b).length : Nat) - 1 : Int)) (b + (t k.toNat b).length) (fun j hj b => h j (List.mem_cons_of_mem _ hj) b)
    have h2 := h k (List.mem_cons_self ..) b
    show (t k.toNat b ++ _).length = _
    rw [List.length_append, h1, List.map_cons, List.sum_cons, h2]
/-- how many parts a part is with all below it -/
def siz (ps : List Part) (i : Nat) : Nat := (treeL ps (i + 1) i 0).length
theorem treeL_len {ps : List Part} (hv : ∀ i (h : i < ps.length), GoodAt ps[i] i) : ∀ (i : Nat) (hi : i < ps.length), (∀ f b, i < f → (treeL ps f i b).length = siz ps i) ∧ siz ps i = 1 + ((belowL ps[i]).map fun k => siz ps k.toNat).sum := by
  intro i
  induction i using Nat.strongRecOn with
  | _ i ih =>
    intro hi
    have hg := hv i hi
    have key : ∀ f b, i < f → (treeL ps f i b).length = 1 + ((belowL ps[i]).map fun k => siz ps k.toNat).sum := by
      intro f b hf
      obtain ⟨f', rfl⟩ : ∃ f', f = f' + 1 := ⟨f - 1, by omega⟩
      rw [treeL_some hi, List.length_append, treeS_len (m := siz ps) _ _ _ _ (fun k hk b => by
        have := hg.2 k hk
        exact (ih k.toNat (by omega) (by omega)).1 f' b (by omega))]
      simp; omega
    refine ⟨fun f b hf => ?_, key (i + 1) 0 (by omega)⟩
    rw [key f b hf]
    exact (key (i + 1) 0 (by omega)).symm
theorem siz_sum {ps : List Part} (hv : ∀ i (h : i < ps.length), GoodAt ps[i] i) : ∀ (m : Nat), m ≤ ps.length → ((List.range m).map (siz ps)).sum = m + (((ps.take m).flatMap belowL).map fun k => siz ps k.toNat).sum
  | 0, _ => by simp
  | m + 1, h => by
    have h1 := siz_sum hv m (by omega)
    rw [List.range_succ, List.map_append, List.sum_append, h1, take_succ_flatMap _ _ _ (by omega), List.map_append, List.sum_append]
    have := (treeL_len hv m (by omega)).2
    simp only [List.map_cons, List.map_nil, List.sum_cons, List.sum_nil]
    omega
theorem siz_last {ps : List Part} (h : ValidP ps) : siz ps (ps.length - 1) = ps.length := by
  have hv := h.2.2.1
  have hpos := h.1
  have h1 := siz_sum hv ps.length (Nat.le_refl _)
  rw [List.take_length] at h1
  have hp : List.Perm (ps.flatMap belowL) ((List.range (ps.length - 1)).map (fun (k : Nat) => (k : Int))) := by
    rw [List.perm_iff_count]
    intro x
    by_cases hx : 0 ≤ x ∧ x < ((ps.length - 1 : Nat) : Int)
    · have hc := h.2.2.2 x.toNat (by omega)
      rw [Int.toNat_of_nonneg hx.1] at hc
      rw [hc]
      have hnd : ((List.range (ps.length - 1)).map (fun (k : Nat) => (k : Int))).Nodup := by
        unfold List.Nodup
        rw [List.pairwise_map]
        exact List.Pairwise.imp (by intro a b h; omega) List.pairwise_lt_range
      have hmem : x ∈ (List.range (ps.length - 1)).map (fun (k : Nat) => (k : Int)) := List.mem_map.2 ⟨x.toNat, List.mem_range.2 (by omega), by omega⟩
      have := hnd.count (a := x)
      rw [if_pos hmem] at this
      exact this.symm
    · have h2 : x ∉ ps.flatMap belowL := by
        intro hm
        obtain ⟨p, hp, hk⟩ := List.mem_flatMap.1 hm
        obtain ⟨i, hi, rfl⟩ := List.mem_iff_getElem.1 hp
        have := (hv i hi).2 x hk
        omega
      have h3 : x ∉ (List.range (ps.length - 1)).map (fun (k : Nat) => (k : Int)) := by
        intro hm
        obtain ⟨k, hk, rfl⟩ := List.mem_map.1 hm
        rw [List.mem_range] at hk
        omega
      rw [List.count_eq_zero.2 h2, List.count_eq_zero.2 h3]
  have h4 := (hp.map (fun k => siz ps k.toNat)).sum_nat
  rw [h4, List.map_map] at h1
  have e : ps.length = (ps.length - 1) + 1 := by omega
  have h5 : ((List.range ps.length).map (siz ps)).sum = ((List.range (ps.length - 1)).map (siz ps)).sum + siz ps (ps.length - 1) := by
    conv => lhs; rw [e, List.range_succ]
    simp
  have h6 : ((List.range (ps.length - 1)).map ((fun k : Int => siz ps k.toNat) ∘ fun (k : Nat) => (k : Int))).sum = ((List.range (ps.length - 1)).map (siz ps)).sum := rfl
  omega
/-- a formula's parts in order -/
noncomputable def ordL (ps : List Part) : List Part := if validF ps then putL ps ps.length (ps.length - 1) [] else []
theorem ordL_tree {ps : List Part} (h : ValidP ps) : ordL ps = treeL ps ps.length (ps.length - 1) 0 := by
  unfold ordL
  rw [if_pos (validF_iff.2 h), putL_tree]
  simp
theorem ordL_length {ps : List Part} (h : ValidP ps) : (ordL ps).length = ps.length := by
  have hp := h.1
  rw [ordL_tree h, (treeL_len h.2.2.1 (ps.length - 1) (by omega)).1 _ _ (by omega), siz_last h]
theorem ordL_valid {ps : List Part} (h : ValidP ps) : ValidP (ordL ps) := by
  have hl := ordL_length h
  have h0 := h.1
  have hs := treeL_stands h.2.2.1 ps.length (ps.length - 1) 0 (by omega) (by omega)
  rw [← ordL_tree h] at hs
  refine ⟨by have := h.1; omega, by have := h.2.1; omega, fun i hi => ?_, fun j hj => ?_⟩
  · have := hs.good i hi; rwa [Nat.zero_add] at this
  · rw [hs.count j, if_pos ⟨by omega, by omega⟩]
end SG

/- Plain data: renamed and ordered formulas have the same value. No program here. -/
namespace SG
set_option linter.unusedSimpArgs false
set_option linter.unusedVariables false
/-! renamed -/
theorem renP_same (to : List Int) (p : Part) : (renP to p).kind = p.kind ∧ (renP to p).a = p.a ∧ (renP to p).b = p.b ∧ (renP to p).c = p.c := by
  unfold renP
  split <;> exact ⟨rfl, rfl, rfl, rfl⟩
theorem renP_n (to : List Int) (p : Part) : (renP to p).n = if p.kind = 1 then at0 to p.n.toNat else p.n := by
  unfold renP
  split <;> rfl
theorem renP_below (to : List Int) (p : Part) : belowL (renP to p) = belowL p := by
  obtain ⟨h1, h2, h3, h4⟩ := renP_same to p
  unfold belowL
  rw [h1, h2, h3, h4]
theorem renP_good {to : List Int} {p : Part} {i : Nat} (h : GoodAt p i) (ht : p.kind = 1 → 0 ≤ at0 to p.n.toNat ∧ at0 to p.n.toNat ≤ 9) : GoodAt (renP to p) i := by
  refine ⟨?_, fun k hk => by rw [renP_below] at hk; exact h.2 k hk⟩
  obtain ⟨h1, h2, h3, h4⟩ := renP_same to p
  have ha := h.1
  unfold aloneB at ha ⊢
  rw [h1, h2, h3, h4, renP_n]
  by_cases hk : p.kind = 1
  · have := ht hk
    simp [hk, inB] at ha ⊢
    exact ⟨⟨⟨this, ha.1.1.2⟩, ha.1.2⟩, ha.2⟩
  · rw [if_neg hk]; exact ha
theorem RenOk.at0 {ps : List Part} {to : List Int} (h : RenOk ps to) {i : Nat} (hi : i < ps.length) (hk : ps[i].kind = 1) : 0 ≤ at0 to ps[i].n.toNat ∧ at0 to ps[i].n.toNat ≤ 9 := by
  have h1 := h.1.reads hi hk
  have h2 := h.2.2.2 i hi hk
  have hl : ps[i].n.toNat < to.length := by omega
  have := h.2.2.1 to[ps[i].n.toNat] (List.getElem_mem hl)
  rwa [at0_eq] at this
theorem flatMap_map' {α β : Type} (f : α → List β) (g : α → α) (xs : List α) (h : ∀ x ∈ xs, f (g x) = f x) : (xs.map g).flatMap f = xs.flatMap f := by
  induction xs with
  | nil => rfl
  | cons x xs ih =>
    simp only [List.map_cons, List.flatMap_cons]
    rw [h x (by simp), ih (fun y hy => h y (List.mem_cons_of_mem _ hy))]
theorem renL_valid {ps : List Part} {to : List Int} (h : RenOk ps to) : ValidP (renL ps to) := by
  rw [renL_ok h]
  refine ⟨by simpa using h.1.1, by simpa using h.1.2.1, fun i hi => ?_, fun j hj => ?_⟩
  · rw [List.getElem_map]
    have hi' : i < ps.length := by simpa using hi
    exact renP_good (h.1.2.2.1 i hi') (fun hk => h.at0 hi' hk)
  · rw [flatMap_map' belowL (renP to) ps (fun p _ => renP_below to p)]
    exact h.1.2.2.2 j (by simpa using hj)
theorem evL_ren {ps : List Part} {to : List Int} (h : RenOk ps to) (vals : Int → Int) : ∀ (i : Nat), i < ps.length →
    evL (renL ps to) vals i = ((evL ps (fun n => vals (at0 to n.toNat)) i).1, (evL ps (fun n => vals (at0 to n.toNat)) i).2.map fun n => at0 to n.toNat) := by
  have hv := h.1.2.2.1
  have hq := (renL_valid h).2.2.1
  rw [renL_ok h] at hq ⊢
  intro i
  induction i using Nat.strongRecOn with
  | _ i ih =>
    intro hi
    have hi' : i < (ps.map (renP to)).length := by simpa using hi
    have hg := hv i hi
    have hg' := hq i hi'
    obtain ⟨e1, e2, e3, e4⟩ := renP_same to ps[i]
    have e0 : (ps.map (renP to))[i] = renP to ps[i] := by rw [List.getElem_map]
    rcases part_cases hv hi with hk | hk | hk | ⟨h0, h1, h8⟩
    · rw [evL_num hi' (by rw [e0, e1, hk]), evL_num hi hk, e0, renP_n, if_neg (by omega)]; rfl
    · rw [evL_read hi' (by rw [e0, e1, hk]), evL_read hi hk, e0, renP_n, if_pos hk]; rfl
    · obtain ⟨_, ha, hb, hc⟩ := good_if hg hk
      have ia := ih ps[i].a.toNat (by omega) (by omega)
      have ib := ih ps[i].b.toNat (by omega) (by omega)
      have ic := ih ps[i].c.toNat (by omega) (by omega)
      by_cases hx : (evL ps (fun n => vals (at0 to n.toNat)) ps[i].a.toNat).1 = 0
      · rw [evL_else hi' hg' (by rw [e0, e1, hk]) (by rw [e0, e2, ia]; exact hx), evL_else hi hg hk hx, e0, e2, e4, ia, ic]
        simp
      · rw [evL_if hi' hg' (by rw [e0, e1, hk]) (by rw [e0, e2, ia]; exact hx), evL_if hi hg hk hx, e0, e2, e3, ia, ib]
        simp
    · obtain ⟨_, _, _, ha, hb⟩ := good_bin hg h0 h1 h8
      have ia := ih ps[i].a.toNat (by omega) (by omega)
      have ib := ih ps[i].b.toNat (by omega) (by omega)
      rw [evL_bin hi' hg' (by rw [e0, e1]; exact h0) (by rw [e0, e1]; exact h1) (by rw [e0, e1]; exact h8), evL_bin hi hg h0 h1 h8, e0, e1, e2, e3, ia, ib]
      simp

/-! in order -/
theorem at_get? {Q T : List Part} {b j : Nat} (hQ : ∀ j (h : j < T.length), Q[b + j]? = some T[j]) (h : j < T.length) : ∃ hq : b + j < Q.length, Q[b + j] = T[j] := by
  have h1 := hQ j h
  obtain ⟨hq, e⟩ := List.getElem?_eq_some_iff.1 h1
  exact ⟨hq, e⟩
structure NodeB (ps : List Part) (f i b : Nat) (TA TB : List Part) (q : Part) : Prop where
  eq : treeL ps (f + 1) i b = TA ++ TB ++ [q]
  ta : treeL ps f (ps[i]?.getD default).a.toNat b = TA
  tb : treeL ps f (ps[i]?.getD default).b.toNat (b + TA.length) = TB
  q : q = ((ps[i]?.getD default).put 1 ((b + TA.length : Nat) - 1 : Int)).put 2 ((b + TA.length + TB.length : Nat) - 1 : Int)
theorem treeL_bin {ps : List Part} {f i b : Nat} (hi : i < ps.length) (hk : 2 ≤ ps[i].kind ∧ ps[i].kind ≤ 7) : ∃ TA TB q, treeL ps (f + 1) i b = TA ++ TB ++ [q] ∧ treeL ps f ps[i].a.toNat b = TA ∧ treeL ps f ps[i].b.toNat (b + TA.length) = TB ∧ q = (ps[i].put 1 ((b + TA.length : Nat) - 1 : Int)).put 2 ((b + TA.length + TB.length : Nat) - 1 : Int) := by
  refine ⟨_, _, _, ?_, rfl, rfl, rfl⟩
  rw [treeL_some hi, belowL_bin hk]
  simp [treeS]
theorem treeL_ite {ps : List Part} {f i b : Nat} (hi : i < ps.length) (hk : ps[i].kind = 8) : ∃ TA TB TC q, treeL ps (f + 1) i b = TA ++ TB ++ TC ++ [q] ∧ treeL ps f ps[i].a.toNat b = TA ∧ treeL ps f ps[i].b.toNat (b + TA.length) = TB ∧ treeL ps f ps[i].c.toNat (b + TA.length + TB.length) = TC ∧ q = ((ps[i].put 1 ((b + TA.length : Nat) - 1 : Int)).put 2 ((b + TA.length + TB.length : Nat) - 1 : Int)).put 3 ((b + TA.length + TB.length + TC.length : Nat) - 1 : Int) := by
  refine ⟨_, _, _, _, ?_, rfl, rfl, rfl, rfl⟩
  rw [treeL_some hi, belowL_if hk]
  simp [treeS]
theorem treeL_leaf {ps : List Part} {f i b : Nat} (hi : i < ps.length) (hk : ps[i].kind = 0 ∨ ps[i].kind = 1) : treeL ps (f + 1) i b = [ps[i]] := by
  rw [treeL_some hi, belowL_leaf hk]
  simp [treeS]
theorem sub_left {Q S T : List Part} {b : Nat} (h : ∀ j (h : j < (S ++ T).length), Q[b + j]? = some (S ++ T)[j]) : ∀ j (h : j < S.length), Q[b + j]? = some S[j] := fun j hj => by
  rw [h j (by simp; omega), List.getElem_append_left hj]
theorem sub_right {Q S T : List Part} {b : Nat} (h : ∀ j (h : j < (S ++ T).length), Q[b + j]? = some (S ++ T)[j]) : ∀ j (h : j < T.length), Q[b + S.length + j]? = some T[j] := fun j hj => by
  have := h (S.length + j) (by simp; omega)
  rw [List.getElem_append_right (by omega)] at this
  rw [show b + S.length + j = b + (S.length + j) by omega, this]
  simp
theorem one_get {Q : List Part} {q : Part} {b : Nat} (h : ∀ j (h : j < [q].length), Q[b + j]? = some [q][j]) : Q[b]? = some q := h 0 (by simp)
theorem tree_eval {ps : List Part} (hv : ∀ i (h : i < ps.length), GoodAt ps[i] i) (vals : Int → Int) (Q : List Part) (hQg : ∀ i (h : i < Q.length), GoodAt Q[i] i) : ∀ (f i b : Nat), i < f → i < ps.length →
    (∀ j (h : j < (treeL ps f i b).length), Q[b + j]? = some (treeL ps f i b)[j]) → 0 < (treeL ps f i b).length ∧ evL Q vals (b + (treeL ps f i b).length - 1) = evL ps vals i := by
  intro f
  induction f with
  | zero => intro i b h; omega
  | succ f ih =>
    intro i b hif hi hQ
    have hg := hv i hi
    rcases good_kind hg with hk | hk | hk | hk
    · rw [treeL_leaf hi (.inl hk)] at hQ ⊢
      obtain ⟨hq, e⟩ := List.getElem?_eq_some_iff.1 (one_get hQ)
      refine ⟨by simp, ?_⟩
      simp only [List.length_singleton, Nat.add_sub_cancel]
      rw [evL_num hq (by rw [e]; exact hk), evL_num hi hk, e]
    · rw [treeL_leaf hi (.inr hk)] at hQ ⊢
      obtain ⟨hq, e⟩ := List.getElem?_eq_some_iff.1 (one_get hQ)
      refine ⟨by simp, ?_⟩
      simp only [List.length_singleton, Nat.add_sub_cancel]
      rw [evL_read hq (by rw [e]; exact hk), evL_read hi hk, e]
    · obtain ⟨_, hc, hn, ha, hb⟩ := good_bin hg (by omega) (by omega) (by omega)
      obtain ⟨TA, TB, q, eT, eA, eB, eq⟩ := treeL_bin (f := f) (b := b) hi hk
      rw [eT] at hQ ⊢
      obtain ⟨pA, vA⟩ := ih ps[i].a.toNat b (by omega) (by omega) (by rw [eA]; exact sub_left (sub_left hQ))
      obtain ⟨pB, vB⟩ := ih ps[i].b.toNat (b + TA.length) (by omega) (by omega) (by rw [eB]; exact sub_right (sub_left hQ))
      rw [eA] at pA vA
      rw [eB] at pB vB
      have hq0 := one_get (sub_right hQ)
      rw [List.length_append, ← Nat.add_assoc] at hq0
      obtain ⟨hq, e⟩ := List.getElem?_eq_some_iff.1 hq0
      have qk : q.kind = ps[i].kind := by rw [eq]; rfl
      have qa : q.a = ((b + TA.length : Nat) - 1 : Int) := by rw [eq]; rfl
      have qb : q.b = ((b + TA.length + TB.length : Nat) - 1 : Int) := by rw [eq]; rfl
      refine ⟨by simp; omega, ?_⟩
      have el : b + (TA ++ TB ++ [q]).length - 1 = b + TA.length + TB.length := by simp; omega
      rw [el, evL_bin hq (hQg _ hq) (by rw [e]; omega) (by rw [e]; omega) (by rw [e]; omega), evL_bin hi hg (by omega) (by omega) (by omega), e, qk, qa, qb]
      rw [show ((b + TA.length : Nat) - 1 : Int).toNat = b + TA.length - 1 by omega, show ((b + TA.length + TB.length : Nat) - 1 : Int).toNat = b + TA.length + TB.length - 1 by omega, vA, vB]
    · obtain ⟨hn, ha, hb, hc⟩ := good_if hg hk
      obtain ⟨TA, TB, TC, q, eT, eA, eB, eC, eq⟩ := treeL_ite (f := f) (b := b) hi hk
      rw [eT] at hQ ⊢
      obtain ⟨pA, vA⟩ := ih ps[i].a.toNat b (by omega) (by omega) (by rw [eA]; exact sub_left (sub_left (sub_left hQ)))
      obtain ⟨pB, vB⟩ := ih ps[i].b.toNat (b + TA.length) (by omega) (by omega) (by rw [eB]; exact sub_right (sub_left (sub_left hQ)))
      obtain ⟨pC, vC⟩ := ih ps[i].c.toNat (b + TA.length + TB.length) (by omega) (by omega) (by
        rw [eC]
        have := sub_right (sub_left hQ)
        rw [List.length_append, ← Nat.add_assoc] at this
        exact this)
      rw [eA] at pA vA
      rw [eB] at pB vB
      rw [eC] at pC vC
      have hq0 := one_get (sub_right hQ)
      rw [List.length_append, List.length_append, ← Nat.add_assoc, ← Nat.add_assoc] at hq0
      obtain ⟨hq, e⟩ := List.getElem?_eq_some_iff.1 hq0
      have qk : q.kind = ps[i].kind := by rw [eq]; rfl
      have qa : q.a = ((b + TA.length : Nat) - 1 : Int) := by rw [eq]; rfl
      have qb : q.b = ((b + TA.length + TB.length : Nat) - 1 : Int) := by rw [eq]; rfl
      have qc : q.c = ((b + TA.length + TB.length + TC.length : Nat) - 1 : Int) := by rw [eq]; rfl
      refine ⟨by simp; omega, ?_⟩
      have el : b + (TA ++ TB ++ TC ++ [q]).length - 1 = b + TA.length + TB.length + TC.length := by simp; omega
      have ta : ((b + TA.length : Nat) - 1 : Int).toNat = b + TA.length - 1 := by omega
      have tb : ((b + TA.length + TB.length : Nat) - 1 : Int).toNat = b + TA.length + TB.length - 1 := by omega
      have tc : ((b + TA.length + TB.length + TC.length : Nat) - 1 : Int).toNat = b + TA.length + TB.length + TC.length - 1 := by omega
      rw [el]
      by_cases hx : (evL ps vals ps[i].a.toNat).1 = 0
      · rw [evL_else hq (hQg _ hq) (by rw [e]; omega) (by rw [e, qa, ta, vA]; exact hx), evL_else hi hg hk hx, e, qa, qc, ta, tc, vA, vC]
      · rw [evL_if hq (hQg _ hq) (by rw [e]; omega) (by rw [e, qa, ta, vA]; exact hx), evL_if hi hg hk hx, e, qa, qb, ta, tb, vA, vB]
theorem put_put_same (p : Part) (a b : Int) : ((p.put 1 a).put 2 b).put 1 a = (p.put 1 a).put 2 b := rfl
theorem tree_again {ps : List Part} (hv : ∀ i (h : i < ps.length), GoodAt ps[i] i) (Q : List Part) : ∀ (f i b : Nat), i < f → i < ps.length →
    (∀ j (h : j < (treeL ps f i b).length), Q[b + j]? = some (treeL ps f i b)[j]) → ∀ f', b + (treeL ps f i b).length - 1 < f' → treeL Q f' (b + (treeL ps f i b).length - 1) b = treeL ps f i b := by
  intro f
  induction f with
  | zero => intro i b h; omega
  | succ f ih =>
    intro i b hif hi hQ f' hf'
    have hg := hv i hi
    obtain ⟨f'', rfl⟩ : ∃ f'', f' = f'' + 1 := ⟨f' - 1, by omega⟩
    rcases good_kind hg with hk | hk | hk | hk
    · rw [treeL_leaf hi (.inl hk)] at hQ ⊢
      obtain ⟨hq, e⟩ := List.getElem?_eq_some_iff.1 (one_get hQ)
      simp only [List.length_singleton, Nat.add_sub_cancel]
      rw [treeL_leaf hq (by rw [e]; exact .inl hk), e]
    · rw [treeL_leaf hi (.inr hk)] at hQ ⊢
      obtain ⟨hq, e⟩ := List.getElem?_eq_some_iff.1 (one_get hQ)
      simp only [List.length_singleton, Nat.add_sub_cancel]
      rw [treeL_leaf hq (by rw [e]; exact .inr hk), e]
    · obtain ⟨_, hc, hn, ha, hb⟩ := good_bin hg (by omega) (by omega) (by omega)
      obtain ⟨TA, TB, q, eT, eA, eB, eq⟩ := treeL_bin (f := f) (b := b) hi hk
      have pA := (treeL_stands hv f ps[i].a.toNat b (by omega) (by omega)).pos
      have pB := (treeL_stands hv f ps[i].b.toNat (b + TA.length) (by omega) (by omega)).pos
      rw [eA] at pA
      rw [eB] at pB
      rw [eT] at hQ hf' ⊢
      have el : b + (TA ++ TB ++ [q]).length - 1 = b + TA.length + TB.length := by simp; omega
      rw [el] at hf' ⊢
      have vA := ih ps[i].a.toNat b (by omega) (by omega) (by rw [eA]; exact sub_left (sub_left hQ)) f'' (by rw [eA]; omega)
      have vB := ih ps[i].b.toNat (b + TA.length) (by omega) (by omega) (by rw [eB]; exact sub_right (sub_left hQ)) f'' (by rw [eB]; omega)
      rw [eA] at vA
      rw [eB] at vB
      have hq0 := one_get (sub_right hQ)
      rw [List.length_append, ← Nat.add_assoc] at hq0
      obtain ⟨hq, e⟩ := List.getElem?_eq_some_iff.1 hq0
      have qk : q.kind = ps[i].kind := by rw [eq]; rfl
      have qa : q.a = ((b + TA.length : Nat) - 1 : Int) := by rw [eq]; rfl
      have qb : q.b = ((b + TA.length + TB.length : Nat) - 1 : Int) := by rw [eq]; rfl
      obtain ⟨TA', TB', q', eT', eA', eB', eq'⟩ := treeL_bin (f := f'') (b := b) hq (by rw [e, qk]; exact hk)
      rw [e, qa, show ((b + TA.length : Nat) - 1 : Int).toNat = b + TA.length - 1 by omega, vA] at eA'
      subst eA'
      rw [e, qb, show ((b + TA.length + TB.length : Nat) - 1 : Int).toNat = b + TA.length + TB.length - 1 by omega, vB] at eB'
      subst eB'
      rw [eT', eq', e, eq]
      rfl
    · obtain ⟨hn, ha, hb, hc⟩ := good_if hg hk
      obtain ⟨TA, TB, TC, q, eT, eA, eB, eC, eq⟩ := treeL_ite (f := f) (b := b) hi hk
      have pA := (treeL_stands hv f ps[i].a.toNat b (by omega) (by omega)).pos
      have pB := (treeL_stands hv f ps[i].b.toNat (b + TA.length) (by omega) (by omega)).pos
      have pC := (treeL_stands hv f ps[i].c.toNat (b + TA.length + TB.length) (by omega) (by omega)).pos
      rw [eA] at pA
      rw [eB] at pB
      rw [eC] at pC
      rw [eT] at hQ hf' ⊢
      have el : b + (TA ++ TB ++ TC ++ [q]).length - 1 = b + TA.length + TB.length + TC.length := by simp; omega
      rw [el] at hf' ⊢
      have vA := ih ps[i].a.toNat b (by omega) (by omega) (by rw [eA]; exact sub_left (sub_left (sub_left hQ))) f'' (by rw [eA]; omega)
      have vB := ih ps[i].b.toNat (b + TA.length) (by omega) (by omega) (by rw [eB]; exact sub_right (sub_left (sub_left hQ))) f'' (by rw [eB]; omega)
      have vC := ih ps[i].c.toNat (b + TA.length + TB.length) (by omega) (by omega) (by
        rw [eC]
        have := sub_right (sub_left hQ)
        rw [List.length_append, ← Nat.add_assoc] at this
        exact this) f'' (by rw [eC]; omega)
      rw [eA] at vA
      rw [eB] at vB
      rw [eC] at vC
      have hq0 := one_get (sub_right hQ)
      rw [List.length_append, List.length_append, ← Nat.add_assoc, ← Nat.add_assoc] at hq0
      obtain ⟨hq, e⟩ := List.getElem?_eq_some_iff.1 hq0
      have qk : q.kind = ps[i].kind := by rw [eq]; rfl
      have qa : q.a = ((b + TA.length : Nat) - 1 : Int) := by rw [eq]; rfl
      have qb : q.b = ((b + TA.length + TB.length : Nat) - 1 : Int) := by rw [eq]; rfl
      have qc : q.c = ((b + TA.length + TB.length + TC.length : Nat) - 1 : Int) := by rw [eq]; rfl
      obtain ⟨TA', TB', TC', q', eT', eA', eB', eC', eq'⟩ := treeL_ite (f := f'') (b := b) hq (by rw [e, qk]; exact hk)
      rw [e, qa, show ((b + TA.length : Nat) - 1 : Int).toNat = b + TA.length - 1 by omega, vA] at eA'
      subst eA'
      rw [e, qb, show ((b + TA.length + TB.length : Nat) - 1 : Int).toNat = b + TA.length + TB.length - 1 by omega, vB] at eB'
      subst eB'
      rw [e, qc, show ((b + TA.length + TB.length + TC.length : Nat) - 1 : Int).toNat = b + TA.length + TB.length + TC.length - 1 by omega, vC] at eC'
      subst eC'
      rw [eT', eq', e, eq]
      rfl
theorem ordL_eval {ps : List Part} (h : ValidP ps) (vals : Int → Int) : evL (ordL ps) vals ((ordL ps).length - 1) = evL ps vals (ps.length - 1) := by
  have h0 := h.1
  have := (tree_eval h.2.2.1 vals (ordL ps) (ordL_valid h).2.2.1 ps.length (ps.length - 1) 0 (by omega) (by omega) (fun j hj => by rw [Nat.zero_add, ordL_tree h, List.getElem?_eq_getElem])).2
  rw [← ordL_tree h, Nat.zero_add] at this
  exact this
theorem ordL_again {ps : List Part} (h : ValidP ps) : ordL (ordL ps) = ordL ps := by
  have h0 := h.1
  have hl := ordL_length h
  have := tree_again h.2.2.1 (ordL ps) ps.length (ps.length - 1) 0 (by omega) (by omega) (fun j hj => by rw [Nat.zero_add, ordL_tree h, List.getElem?_eq_getElem]) (ordL ps).length (by rw [← ordL_tree h]; omega)
  rw [← ordL_tree h, Nat.zero_add] at this
  rw [ordL_tree (ordL_valid h)]
  exact this
end SG

/- Plain data: folded formulas. No program here. -/
namespace SG
set_option linter.unusedSimpArgs false
set_option linter.unusedVariables false
def upI (n : Nat) (x : Int) : Int := if 0 ≤ x then x + n else x
def shiftP (n : Nat) (p : Part) : Part := { p with a := upI n p.a, b := upI n p.b, c := upI n p.c }
theorem upI_zero (x : Int) : upI 0 x = x := by unfold upI; split <;> simp
theorem upI_up (m n : Nat) (x : Int) : upI m (upI n x) = upI (m + n) x := by
  unfold upI
  by_cases h : 0 ≤ x
  · rw [if_pos h, if_pos (by omega), if_pos h]; omega
  · rw [if_neg h, if_neg h, if_neg h]
theorem shiftP_zero (p : Part) : shiftP 0 p = p := by simp [shiftP, upI_zero]
theorem shiftP_up (m n : Nat) (p : Part) : shiftP m (shiftP n p) = shiftP (m + n) p := by simp [shiftP, upI_up]
def lastP (T : List Part) : Part := T.getLast?.getD default
theorem lastP_snoc (T : List Part) (p : Part) : lastP (T ++ [p]) = p := by simp [lastP]
theorem lastP_get {T : List Part} (h : 0 < T.length) : lastP T = T[T.length - 1] := by
  rw [lastP, List.getLast?_eq_getElem?, List.getElem?_eq_getElem (by omega)]
  rfl
/-- subs put one behind the other, below a part -/
def foldS : List (List Part) → Nat → Part × List Part → Part × List Part
  | [], _, s => s
  | g :: gs, x, s => foldS gs (x + 1) (s.1.put (x + 1) ((s.2 ++ g.map (shiftP s.2.length)).length - 1 : Int), s.2 ++ g.map (shiftP s.2.length))
def foldC (p : Part) (subs : List (List Part)) : List Part := (foldS subs 0 (p, [])).2 ++ [(foldS subs 0 (p, [])).1]
def isNum (T : List Part) : Prop := (lastP T).kind = 0
instance (T : List Part) : Decidable (isNum T) := inferInstanceAs (Decidable (_ = _))
/-- what becomes of a part, its subs folded -/
def foldP (p : Part) (subs : List (List Part)) : List Part :=
  if p.kind = 8 then
    if isNum (subs.getD 0 []) then (if (lastP (subs.getD 0 [])).n ≠ 0 then subs.getD 1 [] else subs.getD 2 []) else foldC p subs
  else if subs.length = 2 then
    if isNum (subs.getD 0 []) ∧ isNum (subs.getD 1 []) ∧ joinI p.kind (lastP (subs.getD 0 [])).n (lastP (subs.getD 1 [])).n ≤ 99 then [numPart (joinI p.kind (lastP (subs.getD 0 [])).n (lastP (subs.getD 1 [])).n)] else foldC p subs
  else foldC p subs
def foldL (ps : List Part) : Nat → Nat → List Part
  | 0, _ => []
  | f + 1, i => match ps[i]? with
    | none => []
    | some p => foldP p ((belowL p).map fun k => foldL ps f k.toNat)
theorem foldL_some {ps : List Part} {f i : Nat} (h : i < ps.length) : foldL ps (f + 1) i = foldP ps[i] ((belowL ps[i]).map fun k => foldL ps f k.toNat) := by
  rw [foldL, List.getElem?_eq_getElem h]
theorem foldC_leaf (p : Part) : foldC p [] = [p] := rfl
theorem foldC_bin (p : Part) (A B : List Part) : foldC p [A, B] = A ++ B.map (shiftP A.length) ++ [(p.put 1 ((A.length : Nat) - 1 : Int)).put 2 ((A.length + B.length : Nat) - 1 : Int)] := by
  simp only [foldC, foldS, List.nil_append, List.length_nil]
  have e : A.map (shiftP 0) = A := by rw [show shiftP 0 = id from funext shiftP_zero]; simp
  rw [e]
  simp
theorem foldC_ite (p : Part) (A B C : List Part) : foldC p [A, B, C] = A ++ B.map (shiftP A.length) ++ C.map (shiftP (A.length + B.length)) ++ [((p.put 1 ((A.length : Nat) - 1 : Int)).put 2 ((A.length + B.length : Nat) - 1 : Int)).put 3 ((A.length + B.length + C.length : Nat) - 1 : Int)] := by
  simp only [foldC, foldS, List.nil_append, List.length_nil]
  have e : A.map (shiftP 0) = A := by rw [show shiftP 0 = id from funext shiftP_zero]; simp
  rw [e]
  simp
  congr 1
  omega
theorem shift_below {p : Part} {i : Nat} (hg : GoodAt p i) (n : Nat) : belowL (shiftP n p) = (belowL p).map (· + (n : Int)) := by
  rcases good_kind hg with h | h | h | h
  · rw [belowL_leaf (p := p) (.inl h), belowL_leaf (p := shiftP n p) (.inl h)]; rfl
  · rw [belowL_leaf (p := p) (.inr h), belowL_leaf (p := shiftP n p) (.inr h)]; rfl
  · obtain ⟨_, _, _, ha, hb⟩ := good_bin hg (by omega) (by omega) (by omega)
    rw [belowL_bin (p := p) h, belowL_bin (p := shiftP n p) h]
    simp [shiftP, upI, ha.1, hb.1]
  · obtain ⟨_, ha, hb, hc⟩ := good_if hg h
    rw [belowL_if (p := p) h, belowL_if (p := shiftP n p) h]
    simp [shiftP, upI, ha.1, hb.1, hc.1]
theorem shift_good {p : Part} {i : Nat} (hg : GoodAt p i) (n : Nat) : GoodAt (shiftP n p) (n + i) := by
  refine ⟨?_, fun k hk => ?_⟩
  · have ha := hg.1
    rcases good_kind hg with h | h | h | h
    · simp [aloneB, h] at ha
      simp [aloneB, shiftP, h, upI, ha]
    · simp [aloneB, h] at ha
      simp [aloneB, shiftP, h, upI, ha]
    · obtain ⟨_, hc, hn, _⟩ := good_bin hg (by omega) (by omega) (by omega)
      have hin := inB_iff.2 h
      simp [aloneB, shiftP, show p.kind ≠ 0 by omega, show p.kind ≠ 1 by omega, show p.kind ≠ 8 by omega, hin, hn, hc, upI]
    · obtain ⟨hn, _⟩ := good_if hg h
      simp [aloneB, shiftP, h, hn]
  · rw [shift_below hg, List.mem_map] at hk
    obtain ⟨k', hk', rfl⟩ := hk
    have := hg.2 k' hk'
    omega
/-- Q has T from b on -/
def Lies (Q : List Part) (b : Nat) (T : List Part) : Prop := ∀ j (h : j < T.length), Q[b + j]? = some (shiftP b T[j])
theorem Lies.left {Q S T : List Part} {b : Nat} (h : Lies Q b (S ++ T)) : Lies Q b S := fun j hj => by
  rw [h j (by simp; omega), List.getElem_append_left hj]
theorem Lies.right {Q S T : List Part} {b : Nat} (h : Lies Q b (S ++ T.map (shiftP S.length))) : Lies Q (b + S.length) T := fun j hj => by
  have := h (S.length + j) (by simp; omega)
  rw [List.getElem_append_right (by omega)] at this
  rw [show b + S.length + j = b + (S.length + j) by omega, this]
  simp [shiftP_up]
theorem Lies.last {Q S : List Part} {q : Part} {b : Nat} (h : Lies Q b (S ++ [q])) : Q[b + S.length]? = some (shiftP b q) := by
  have := h S.length (by simp)
  simpa using this
theorem Lies.self (T : List Part) : Lies T 0 T := fun j h => by rw [Nat.zero_add, List.getElem?_eq_getElem h, shiftP_zero]
/-- what a folded part is, by cases -/
structure Folded (ps : List Part) (i : Nat) (T : List Part) : Prop where
  stands : Stands T 0
  size : T.length ≤ siz ps i
  reads : ∀ q ∈ T, q.kind = 1 → ∃ p ∈ ps, p.kind = 1 ∧ p.n = q.n
  eval : ∀ (vals : Int → Int) (Q : List Part) (b : Nat), (∀ i (h : i < Q.length), GoodAt Q[i] i) → Lies Q b T → evL Q vals (b + T.length - 1) = evL ps vals i
  again : ∀ (Q : List Part) (b : Nat), (∀ i (h : i < Q.length), GoodAt Q[i] i) → Lies Q b T → ∀ f', b + T.length - 1 < f' → foldL Q f' (b + T.length - 1) = T
theorem Folded.num {ps : List Part} {i : Nat} {T : List Part} (h : Folded ps i T) (hn : isNum T) (vals : Int → Int) : evL ps vals i = ((lastP T).n, []) ∧ 0 ≤ (lastP T).n ∧ (lastP T).n ≤ 99 := by
  have hp := h.stands.pos
  have hg : ∀ i (h : i < T.length), GoodAt T[i] i := fun i hi => by have := h.stands.good i hi; rwa [Nat.zero_add] at this
  have e := h.eval vals T 0 hg (Lies.self T)
  rw [Nat.zero_add] at e
  have hk : T[T.length - 1].kind = 0 := by rw [← lastP_get hp]; exact hn
  rw [evL_num (by omega) hk] at e
  rw [← e, lastP_get hp]
  have ha := (hg (T.length - 1) (by omega)).1
  simp [aloneB, hk, inB] at ha
  exact ⟨rfl, ha.1.1.1⟩
theorem good_zero {T : List Part} (h : Stands T 0) : ∀ j (hj : j < T.length), GoodAt T[j] j := fun j hj => by have := h.good j hj; rwa [Nat.zero_add] at this
theorem shift_flat {T : List Part} (hT : ∀ j (hj : j < T.length), GoodAt T[j] j) (n : Nat) : (T.map (shiftP n)).flatMap belowL = (T.flatMap belowL).map (· + (n : Int)) := by
  have : ∀ p ∈ T, belowL (shiftP n p) = (belowL p).map (· + (n : Int)) := fun p hp => by
    obtain ⟨j, hj, rfl⟩ := List.mem_iff_getElem.1 hp
    exact shift_below (hT j hj) n
  clear hT
  induction T with
  | nil => rfl
  | cons p T ih =>
    simp only [List.map_cons, List.flatMap_cons, List.map_append]
    rw [this p (by simp), ih (fun q hq => this q (List.mem_cons_of_mem _ hq))]
theorem count_shift (xs : List Int) (n k : Nat) (hx : ∀ x ∈ xs, 0 ≤ x) : (xs.map (· + (n : Int))).count (k : Int) = if n ≤ k then xs.count ((k - n : Nat) : Int) else 0 := by
  induction xs with
  | nil => simp
  | cons x xs ih =>
    have h1 := ih (fun y hy => hx y (List.mem_cons_of_mem _ hy))
    have h2 := hx x (by simp)
    simp only [List.map_cons, List.count_cons, h1, beq_iff_eq]
    by_cases h : n ≤ k
    · simp only [h, if_true]
      congr 1
      by_cases e : x + (n : Int) = k
      · rw [if_pos e, if_pos (by omega)]
      · rw [if_neg e, if_neg (by omega)]
    · simp only [h, if_false]
      rw [if_neg (by omega)]
/-- a tree shifted -/
theorem Stands.shift {T : List Part} (h : Stands T 0) (n : Nat) : Stands (T.map (shiftP n)) n := by
  have hg := good_zero h
  refine ⟨by simpa using h.pos, fun j hj => ?_, fun p hp k hk => ?_, fun k => ?_⟩
  · rw [List.getElem_map]
    exact shift_good (hg j (by simpa using hj)) n
  · obtain ⟨q, hq, rfl⟩ := List.mem_map.1 hp
    obtain ⟨j, hj, rfl⟩ := List.mem_iff_getElem.1 hq
    rw [shift_below (hg j hj), List.mem_map] at hk
    obtain ⟨k', hk', rfl⟩ := hk
    have := h.low _ (List.getElem_mem hj) k' hk'
    omega
  · rw [shift_flat hg, count_shift _ _ _ (fun x hx => by
      obtain ⟨p, hp, hk⟩ := List.mem_flatMap.1 hx
      have := h.low p hp x hk
      omega)]
    rw [h.count (k - n), List.length_map]
    by_cases e : n ≤ k
    · simp only [e, if_true]
      by_cases e2 : k + 1 < n + T.length
      · rw [if_pos ⟨by omega, by omega⟩, if_pos ⟨trivial, e2⟩]
      · rw [if_neg (by omega), if_neg (by omega)]
    · rw [if_neg e, if_neg (by omega)]
theorem stands_bin {A B : List Part} {p q : Part} (hA : Stands A 0) (hB : Stands B 0) (hk : 2 ≤ p.kind ∧ p.kind ≤ 7) (hc : p.c = -1) (hn : p.n = 0) (hq : q = (p.put 1 ((A.length : Nat) - 1 : Int)).put 2 ((A.length + B.length : Nat) - 1 : Int)) : Stands (A ++ B.map (shiftP A.length) ++ [q]) 0 := by
  have sB := hB.shift A.length
  have pA := hA.pos
  have pB := hB.pos
  have qk : q.kind = p.kind := by rw [hq]; rfl
  have qn : q.n = p.n := by rw [hq]; rfl
  have qc : q.c = p.c := by rw [hq]; rfl
  have qa : q.a = ((A.length : Nat) - 1 : Int) := by rw [hq]; rfl
  have qb : q.b = ((A.length + B.length : Nat) - 1 : Int) := by rw [hq]; rfl
  have hqb : belowL q = [q.a, q.b] := belowL_bin (by omega)
  refine ⟨by simp; omega, ?_, fun r hr k hk' => ?_, fun k => ?_⟩
  · rw [List.append_assoc]
    refine good_append hA.good (good_append (by rw [Nat.zero_add]; exact sB.good) fun j hj => ?_)
    simp only [List.length_singleton] at hj
    have : j = 0 := by omega
    subst this
    simp only [List.getElem_singleton]
    have hin : inB q.kind 2 7 = true := inB_iff.2 (by omega)
    refine ⟨by simp [aloneB, show q.kind ≠ 0 by omega, show q.kind ≠ 1 by omega, show q.kind ≠ 8 by omega, hin, qn, hn, qc, hc], fun k hk => ?_⟩
    rw [hqb, qa, qb] at hk
    simp only [List.mem_cons, List.not_mem_nil, or_false] at hk
    simp only [List.length_map]
    omega
  · simp only [List.mem_append, List.mem_singleton] at hr
    rcases hr with (hr | hr) | hr
    · exact hA.low r hr k hk'
    · have := sB.low r hr k hk'; omega
    · subst hr
      rw [hqb, qa, qb] at hk'
      simp only [List.mem_cons, List.not_mem_nil, or_false] at hk'
      omega
  · have cA := hA.count k
    have cB := sB.count k
    rw [List.length_map] at cB
    simp only [List.flatMap_append, List.count_append, cA, cB, List.flatMap_cons, List.flatMap_nil, List.append_nil, hqb, List.count_cons, List.count_nil, List.length_append, List.length_cons, List.length_nil, List.length_map, beq_iff_eq, qa, qb]
    (repeat' split) <;> omega
theorem stands_ite {A B C : List Part} {p q : Part} (hA : Stands A 0) (hB : Stands B 0) (hC : Stands C 0) (hk : p.kind = 8) (hn : p.n = 0)
    (hq : q = ((p.put 1 ((A.length : Nat) - 1 : Int)).put 2 ((A.length + B.length : Nat) - 1 : Int)).put 3 ((A.length + B.length + C.length : Nat) - 1 : Int)) : Stands (A ++ B.map (shiftP A.length) ++ C.map (shiftP (A.length + B.length)) ++ [q]) 0 := by
  have sB := hB.shift A.length
  have sC := hC.shift (A.length + B.length)
  have pA := hA.pos
  have pB := hB.pos
  have pC := hC.pos
  have qk : q.kind = p.kind := by rw [hq]; rfl
  have qn : q.n = p.n := by rw [hq]; rfl
  have qa : q.a = ((A.length : Nat) - 1 : Int) := by rw [hq]; rfl
  have qb : q.b = ((A.length + B.length : Nat) - 1 : Int) := by rw [hq]; rfl
  have qc : q.c = ((A.length + B.length + C.length : Nat) - 1 : Int) := by rw [hq]; rfl
  have hqb : belowL q = [q.a, q.b, q.c] := belowL_if (by omega)
  refine ⟨by simp; omega, ?_, fun r hr k hk' => ?_, fun k => ?_⟩
  · rw [List.append_assoc, List.append_assoc]
    refine good_append hA.good (good_append (by rw [Nat.zero_add]; exact sB.good) (good_append (fun j hj => by rw [show 0 + A.length + (B.map (shiftP A.length)).length + j = A.length + B.length + j by simp]; exact sC.good j hj) fun j hj => ?_))
    simp only [List.length_singleton] at hj
    have : j = 0 := by omega
    subst this
    simp only [List.getElem_singleton]
    refine ⟨by simp [aloneB, show q.kind = 8 by omega, qn, hn], fun k hk => ?_⟩
    rw [hqb, qa, qb, qc] at hk
    simp only [List.mem_cons, List.not_mem_nil, or_false] at hk
    simp only [List.length_map]
    omega
  · simp only [List.mem_append, List.mem_singleton] at hr
    rcases hr with ((hr | hr) | hr) | hr
    · exact hA.low r hr k hk'
    · have := sB.low r hr k hk'; omega
    · have := sC.low r hr k hk'; omega
    · subst hr
      rw [hqb, qa, qb, qc] at hk'
      simp only [List.mem_cons, List.not_mem_nil, or_false] at hk'
      omega
  · have cA := hA.count k
    have cB := sB.count k
    have cC := sC.count k
    rw [List.length_map] at cB cC
    simp only [List.flatMap_append, List.count_append, cA, cB, cC, List.flatMap_cons, List.flatMap_nil, List.append_nil, hqb, List.count_cons, List.count_nil, List.length_append, List.length_cons, List.length_nil, List.length_map, beq_iff_eq, qa, qb, qc]
    (repeat' split) <;> omega
theorem shift_leaf {p : Part} {i : Nat} (hg : GoodAt p i) (hk : p.kind = 0 ∨ p.kind = 1) (b : Nat) : shiftP b p = p := by
  have ha := hg.1
  obtain ⟨k, a, b', c, n⟩ := p
  dsimp only at hk
  rcases hk with hk | hk <;> subst hk <;> simp [aloneB] at ha <;> simp [shiftP, upI, ha]
theorem stands_leaf {p : Part} (hg : GoodAt p 0) (hk : p.kind = 0 ∨ p.kind = 1) : Stands [p] 0 := by
  have hb := belowL_leaf hk
  refine ⟨by simp, fun j hj => ?_, fun q hq k hk' => ?_, fun k => ?_⟩
  · simp only [List.length_singleton] at hj
    have : j = 0 := by omega
    subst this
    exact hg
  · simp only [List.mem_singleton] at hq; subst hq; rw [hb] at hk'; cases hk'
  · simp [hb]
theorem good_leaf0 {p : Part} {i : Nat} (hg : GoodAt p i) (hk : p.kind = 0 ∨ p.kind = 1) : GoodAt p 0 := ⟨hg.1, fun k h => by rw [belowL_leaf hk] at h; cases h⟩
theorem num_good {v : Int} (h0 : 0 ≤ v) (h1 : v ≤ 99) : GoodAt (numPart v) 0 := ⟨by simp [aloneB, numPart, inB, h0, h1], fun k h => by rw [belowL_leaf (.inl rfl)] at h; cases h⟩
theorem Lies.one {Q : List Part} {p : Part} {b : Nat} (h : Lies Q b [p]) : Q[b]? = some (shiftP b p) := h 0 (by simp)
theorem foldP_leaf {p : Part} (hk : p.kind = 0 ∨ p.kind = 1) : foldP p [] = [p] := by
  unfold foldP
  rw [if_neg (by omega)]
  simp [foldC_leaf]
theorem leaf_folded {ps : List Part} {i : Nat} {p : Part} (hg : GoodAt p 0) (hk : p.kind = 0 ∨ p.kind = 1) (hs : 1 ≤ siz ps i) (hr : p.kind = 1 → ∃ q ∈ ps, q.kind = 1 ∧ q.n = p.n)
    (he : ∀ vals : Int → Int, evL ps vals i = if p.kind = 0 then (p.n, []) else (vals p.n, [p.n])) : Folded ps i [p] := by
  refine ⟨stands_leaf hg hk, by simpa using hs, fun q hq hq1 => ?_, fun vals Q b hQ hL => ?_, fun Q b hQ hL f' hf' => ?_⟩
  · simp only [List.mem_singleton] at hq; subst hq; exact hr hq1
  · have h1 := hL.one
    rw [shift_leaf hg hk] at h1
    obtain ⟨hq, e⟩ := List.getElem?_eq_some_iff.1 h1
    simp only [List.length_singleton, Nat.add_sub_cancel]
    rw [he]
    rcases hk with hk | hk
    · rw [evL_num hq (by rw [e]; exact hk), e, if_pos hk]
    · rw [evL_read hq (by rw [e]; exact hk), e, if_neg (by omega)]
  · have h1 := hL.one
    rw [shift_leaf hg hk] at h1
    obtain ⟨hq, e⟩ := List.getElem?_eq_some_iff.1 h1
    simp only [List.length_singleton, Nat.add_sub_cancel] at hf' ⊢
    obtain ⟨f'', rfl⟩ : ∃ f'', f' = f'' + 1 := ⟨f' - 1, by omega⟩
    rw [foldL_some hq, e, belowL_leaf hk]
    exact foldP_leaf hk
theorem foldL_folded {ps : List Part} (hv : ∀ i (h : i < ps.length), GoodAt ps[i] i) : ∀ (f i : Nat), i < f → i < ps.length → Folded ps i (foldL ps f i) := by
  intro f
  induction f with
  | zero => intro i h; omega
  | succ f ih =>
    intro i hif hi
    have hg := hv i hi
    have hsz := (treeL_len hv i hi).2
    rcases good_kind hg with hk | hk | hk | hk
    · have hb := belowL_leaf (.inl hk)
      rw [foldL_some hi, hb]
      simp only [List.map_nil]
      rw [foldP_leaf (.inl hk)]
      exact leaf_folded (good_leaf0 hg (.inl hk)) (.inl hk) (by omega) (fun h => by omega) (fun vals => by rw [evL_num hi hk, if_pos hk])
    · have hb := belowL_leaf (.inr hk)
      rw [foldL_some hi, hb]
      simp only [List.map_nil]
      rw [foldP_leaf (.inr hk)]
      exact leaf_folded (good_leaf0 hg (.inr hk)) (.inr hk) (by omega) (fun h => ⟨_, List.getElem_mem hi, hk, rfl⟩) (fun vals => by rw [evL_read hi hk, if_neg (by omega)])
    · have hb := belowL_bin hk
      obtain ⟨_, hc, hn, ha1, hb1⟩ := good_bin hg (by omega) (by omega) (by omega)
      have fA := ih ps[i].a.toNat (by omega) (by omega)
      have fB := ih ps[i].b.toNat (by omega) (by omega)
      rw [hb] at hsz
      simp only [List.map_cons, List.map_nil, List.sum_cons, List.sum_nil] at hsz
      rw [foldL_some hi, hb]
      simp only [List.map_cons, List.map_nil]
      generalize foldL ps f ps[i].a.toNat = A at *
      generalize foldL ps f ps[i].b.toNat = B at *
      have pA := fA.stands.pos
      have pB := fB.stands.pos
      unfold foldP
      rw [if_neg (by omega), if_pos (by simp)]
      simp only [List.getD_cons_zero, List.getD_cons_succ]
      split
      · rename_i hcond
        obtain ⟨nA, nB, hle⟩ := hcond
        have hA := fun vals => fA.num nA vals
        have hB := fun vals => fB.num nB vals
        have h0 := joinI_in (k := ps[i].kind) (show InMod (lastP A).n from ⟨(hA (fun _ => 0)).2.1, by have := (hA (fun _ => 0)).2.2; omega⟩) (show InMod (lastP B).n from ⟨(hB (fun _ => 0)).2.1, by have := (hB (fun _ => 0)).2.2; omega⟩)
        refine leaf_folded (num_good h0.1 hle) (.inl rfl) (by omega) (fun h => by cases h) (fun vals => ?_)
        rw [if_pos (show (numPart (joinI ps[i].kind (lastP A).n (lastP B).n)).kind = 0 from rfl), evL_bin hi hg (by omega) (by omega) (by omega), (hA vals).1, (hB vals).1]
        rfl
      · rename_i hcond
        rw [foldC_bin]
        generalize hq : (ps[i].put 1 ((A.length : Nat) - 1 : Int)).put 2 ((A.length + B.length : Nat) - 1 : Int) = q
        have qk : q.kind = ps[i].kind := by rw [← hq]; rfl
        have qa : q.a = ((A.length : Nat) - 1 : Int) := by rw [← hq]; rfl
        have qb : q.b = ((A.length + B.length : Nat) - 1 : Int) := by rw [← hq]; rfl
        refine ⟨stands_bin fA.stands fB.stands hk hc hn hq.symm, ?_, fun r hr hr1 => ?_, fun vals Q b hQ hL => ?_, fun Q b hQ hL f' hf' => ?_⟩
        · have := fA.size
          have := fB.size
          simp only [List.length_append, List.length_map, List.length_singleton]
          omega
        · simp only [List.mem_append, List.mem_map, List.mem_singleton] at hr
          rcases hr with (hr | ⟨r', hr, rfl⟩) | hr
          · exact fA.reads r hr hr1
          · exact fB.reads r' hr hr1
          · subst hr; omega
        · have vA := fA.eval vals Q b hQ hL.left.left
          have vB := fB.eval vals Q (b + A.length) hQ hL.left.right
          have h1 := hL.last
          rw [List.length_append, List.length_map, ← Nat.add_assoc] at h1
          obtain ⟨hq', e⟩ := List.getElem?_eq_some_iff.1 h1
          have ek : (shiftP b q).kind = ps[i].kind := qk
          have ea : (shiftP b q).a = (b : Int) + A.length - 1 := by simp only [shiftP, upI, qa]; rw [if_pos (by omega)]; omega
          have eb : (shiftP b q).b = (b : Int) + A.length + B.length - 1 := by simp only [shiftP, upI, qb]; rw [if_pos (by omega)]; omega
          have el : b + (A ++ B.map (shiftP A.length) ++ [q]).length - 1 = b + A.length + B.length := by simp; omega
          rw [el, evL_bin hq' (hQ _ hq') (by rw [e]; omega) (by rw [e]; omega) (by rw [e]; omega), evL_bin hi hg (by omega) (by omega) (by omega), e, ek, ea, eb]
          rw [show ((b : Int) + A.length - 1).toNat = b + A.length - 1 by omega, show ((b : Int) + A.length + B.length - 1).toNat = b + A.length + B.length - 1 by omega, vA, vB]
        · have el : b + (A ++ B.map (shiftP A.length) ++ [q]).length - 1 = b + A.length + B.length := by simp; omega
          rw [el] at hf' ⊢
          obtain ⟨f'', rfl⟩ : ∃ f'', f' = f'' + 1 := ⟨f' - 1, by omega⟩
          have vA := fA.again Q b hQ hL.left.left f'' (by omega)
          have vB := fB.again Q (b + A.length) hQ hL.left.right f'' (by omega)
          have h1 := hL.last
          rw [List.length_append, List.length_map, ← Nat.add_assoc] at h1
          obtain ⟨hq', e⟩ := List.getElem?_eq_some_iff.1 h1
          have ek : (shiftP b q).kind = ps[i].kind := qk
          have ea : (shiftP b q).a = (b : Int) + A.length - 1 := by simp only [shiftP, upI, qa]; rw [if_pos (by omega)]; omega
          have eb : (shiftP b q).b = (b : Int) + A.length + B.length - 1 := by simp only [shiftP, upI, qb]; rw [if_pos (by omega)]; omega
          rw [foldL_some hq', e, belowL_bin (by omega)]
          simp only [List.map_cons, List.map_nil]
          rw [ea, eb, show ((b : Int) + A.length - 1).toNat = b + A.length - 1 by omega, show ((b : Int) + A.length + B.length - 1).toNat = b + A.length + B.length - 1 by omega, vA, vB]
          unfold foldP
          rw [if_neg (by omega), if_pos (by simp)]
          simp only [List.getD_cons_zero, List.getD_cons_succ]
          rw [ek, if_neg hcond, foldC_bin]
          congr 2
          have uc : upI b ps[i].c = ps[i].c := by rw [hc]; simp [upI]
          rw [← hq]
          simp only [shiftP, Part.put, uc]
    · have hb := belowL_if hk
      obtain ⟨hn, ha1, hb1, hc1⟩ := good_if hg hk
      have fA := ih ps[i].a.toNat (by omega) (by omega)
      have fB := ih ps[i].b.toNat (by omega) (by omega)
      have fC := ih ps[i].c.toNat (by omega) (by omega)
      rw [hb] at hsz
      simp only [List.map_cons, List.map_nil, List.sum_cons, List.sum_nil] at hsz
      rw [foldL_some hi, hb]
      simp only [List.map_cons, List.map_nil]
      generalize foldL ps f ps[i].a.toNat = A at *
      generalize foldL ps f ps[i].b.toNat = B at *
      generalize foldL ps f ps[i].c.toNat = C at *
      have pA := fA.stands.pos
      have pB := fB.stands.pos
      have pC := fC.stands.pos
      unfold foldP
      rw [if_pos hk]
      simp only [List.getD_cons_zero, List.getD_cons_succ]
      split
      · rename_i nA
        have hA := fun vals => fA.num nA vals
        split
        · rename_i hn0
          refine ⟨fB.stands, by have := fB.size; omega, fB.reads, fun vals Q b hQ hL => ?_, fB.again⟩
          rw [fB.eval vals Q b hQ hL, evL_if hi hg hk (by rw [(hA vals).1]; exact hn0), (hA vals).1]
          rfl
        · rename_i hn0
          refine ⟨fC.stands, by have := fC.size; omega, fC.reads, fun vals Q b hQ hL => ?_, fC.again⟩
          rw [fC.eval vals Q b hQ hL, evL_else hi hg hk (by rw [(hA vals).1]; simpa using hn0), (hA vals).1]
          rfl
      · rename_i hcond
        rw [foldC_ite]
        generalize hq : ((ps[i].put 1 ((A.length : Nat) - 1 : Int)).put 2 ((A.length + B.length : Nat) - 1 : Int)).put 3 ((A.length + B.length + C.length : Nat) - 1 : Int) = q
        have qk : q.kind = ps[i].kind := by rw [← hq]; rfl
        have qa : q.a = ((A.length : Nat) - 1 : Int) := by rw [← hq]; rfl
        have qb : q.b = ((A.length + B.length : Nat) - 1 : Int) := by rw [← hq]; rfl
        have qc : q.c = ((A.length + B.length + C.length : Nat) - 1 : Int) := by rw [← hq]; rfl
        have hlC : ∀ {Q : List Part} {b : Nat}, Lies Q b (A ++ B.map (shiftP A.length) ++ C.map (shiftP (A.length + B.length)) ++ [q]) → Lies Q (b + (A.length + B.length)) C := fun {Q b} hL => by
          have h1 := hL.left
          have e : (A ++ B.map (shiftP A.length)).length = A.length + B.length := by simp
          rw [← e] at h1 ⊢
          exact h1.right
        refine ⟨stands_ite fA.stands fB.stands fC.stands hk hn hq.symm, ?_, fun r hr hr1 => ?_, fun vals Q b hQ hL => ?_, fun Q b hQ hL f' hf' => ?_⟩
        · have := fA.size
          have := fB.size
          have := fC.size
          simp only [List.length_append, List.length_map, List.length_singleton]
          omega
        · simp only [List.mem_append, List.mem_map, List.mem_singleton] at hr
          rcases hr with ((hr | ⟨r', hr, rfl⟩) | ⟨r', hr, rfl⟩) | hr
          · exact fA.reads r hr hr1
          · exact fB.reads r' hr hr1
          · exact fC.reads r' hr hr1
          · subst hr; omega
        · have vA := fA.eval vals Q b hQ hL.left.left.left
          have vB := fB.eval vals Q (b + A.length) hQ hL.left.left.right
          have vC := fC.eval vals Q (b + (A.length + B.length)) hQ (hlC hL)
          have h1 := hL.last
          rw [List.length_append, List.length_append, List.length_map, List.length_map] at h1
          obtain ⟨hq', e⟩ := List.getElem?_eq_some_iff.1 h1
          have ek : (shiftP b q).kind = 8 := qk.trans hk
          have ea : (shiftP b q).a = (b : Int) + A.length - 1 := by simp only [shiftP, upI, qa]; rw [if_pos (by omega)]; omega
          have eb : (shiftP b q).b = (b : Int) + A.length + B.length - 1 := by simp only [shiftP, upI, qb]; rw [if_pos (by omega)]; omega
          have ec : (shiftP b q).c = (b : Int) + A.length + B.length + C.length - 1 := by simp only [shiftP, upI, qc]; rw [if_pos (by omega)]; omega
          have ta : ((b : Int) + A.length - 1).toNat = b + A.length - 1 := by omega
          have tb : ((b : Int) + A.length + B.length - 1).toNat = b + A.length + B.length - 1 := by omega
          have tc : ((b : Int) + A.length + B.length + C.length - 1).toNat = b + (A.length + B.length) + C.length - 1 := by omega
          have el : b + (A ++ B.map (shiftP A.length) ++ C.map (shiftP (A.length + B.length)) ++ [q]).length - 1 = b + (A.length + B.length + C.length) := by simp; omega
          rw [el]
          by_cases hx : (evL ps vals ps[i].a.toNat).1 = 0
          · rw [evL_else hq' (hQ _ hq') (by rw [e]; exact ek) (by rw [e, ea, ta, vA]; exact hx), evL_else hi hg hk hx, e, ea, ec, ta, tc, vA, vC]
          · rw [evL_if hq' (hQ _ hq') (by rw [e]; exact ek) (by rw [e, ea, ta, vA]; exact hx), evL_if hi hg hk hx, e, ea, eb, ta, tb, vA, vB]
        · have el : b + (A ++ B.map (shiftP A.length) ++ C.map (shiftP (A.length + B.length)) ++ [q]).length - 1 = b + (A.length + B.length + C.length) := by simp; omega
          rw [el] at hf' ⊢
          obtain ⟨f'', rfl⟩ : ∃ f'', f' = f'' + 1 := ⟨f' - 1, by omega⟩
          have vA := fA.again Q b hQ hL.left.left.left f'' (by omega)
          have vB := fB.again Q (b + A.length) hQ hL.left.left.right f'' (by omega)
          have vC := fC.again Q (b + (A.length + B.length)) hQ (hlC hL) f'' (by omega)
          have h1 := hL.last
          rw [List.length_append, List.length_append, List.length_map, List.length_map] at h1
          obtain ⟨hq', e⟩ := List.getElem?_eq_some_iff.1 h1
          have ek : (shiftP b q).kind = 8 := qk.trans hk
          have ea : (shiftP b q).a = (b : Int) + A.length - 1 := by simp only [shiftP, upI, qa]; rw [if_pos (by omega)]; omega
          have eb : (shiftP b q).b = (b : Int) + A.length + B.length - 1 := by simp only [shiftP, upI, qb]; rw [if_pos (by omega)]; omega
          have ec : (shiftP b q).c = (b : Int) + A.length + B.length + C.length - 1 := by simp only [shiftP, upI, qc]; rw [if_pos (by omega)]; omega
          have ta : ((b : Int) + A.length - 1).toNat = b + A.length - 1 := by omega
          have tb : ((b : Int) + A.length + B.length - 1).toNat = b + A.length + B.length - 1 := by omega
          have tc : ((b : Int) + A.length + B.length + C.length - 1).toNat = b + (A.length + B.length) + C.length - 1 := by omega
          rw [foldL_some hq', e, belowL_if ek]
          simp only [List.map_cons, List.map_nil]
          rw [ea, eb, ec, ta, tb, tc, vA, vB, vC]
          unfold foldP
          rw [if_pos ek]
          simp only [List.getD_cons_zero, List.getD_cons_succ]
          rw [if_neg hcond, foldC_ite]
          congr 2
          rw [← hq]
          obtain ⟨k0, a0, b0, c0, n0⟩ := ps[i]
          rfl
/-- FoldFormula -/
noncomputable def folF (ps : List Part) : List Part := if validF ps then foldL ps ps.length (ps.length - 1) else []
theorem folF_yes {ps : List Part} (h : ValidP ps) : folF ps = foldL ps ps.length (ps.length - 1) := by simp [folF, validF_iff.2 h]
theorem folF_folded {ps : List Part} (h : ValidP ps) : Folded ps (ps.length - 1) (folF ps) := by
  have := h.1
  rw [folF_yes h]
  exact foldL_folded h.2.2.1 _ _ (by omega) (by omega)
theorem folF_length {ps : List Part} (h : ValidP ps) : (folF ps).length ≤ ps.length := by
  have := (folF_folded h).size
  rwa [siz_last h] at this
theorem folF_valid {ps : List Part} (h : ValidP ps) : ValidP (folF ps) := by
  have hf := folF_folded h
  have hl := folF_length h
  have h1 := h.2.1
  have hp := hf.stands.pos
  refine ⟨by omega, by omega, fun i hi => good_zero hf.stands i hi, fun j hj => ?_⟩
  rw [hf.stands.count j, if_pos ⟨by omega, by omega⟩]
theorem folF_eval {ps : List Part} (h : ValidP ps) (vals : Int → Int) : evL (folF ps) vals ((folF ps).length - 1) = evL ps vals (ps.length - 1) := by
  have hf := folF_folded h
  have := hf.eval vals (folF ps) 0 (good_zero hf.stands) (Lies.self _)
  rwa [Nat.zero_add] at this
theorem folF_again {ps : List Part} (h : ValidP ps) : folF (folF ps) = folF ps := by
  have hf := folF_folded h
  have hp := hf.stands.pos
  have := hf.again (folF ps) 0 (good_zero hf.stands) (Lies.self _) (folF ps).length (by omega)
  rw [Nat.zero_add] at this
  rw [folF_yes (folF_valid h)]
  exact this
end SG

/- Plain data: values that fit, as the reference tells them; what a list's first numbers are. No program here. -/
namespace SG
set_option linter.unusedSimpArgs false
set_option linter.unusedVariables false
def allB (xs : List Int) (lo hi : Int) : Bool := xs.all fun x => inB x lo hi
theorem allB_iff {xs : List Int} {lo hi : Int} : allB xs lo hi = true ↔ ∀ x ∈ xs, lo ≤ x ∧ x ≤ hi := by
  simp only [allB, List.all_eq_true, inB_iff]
theorem allB_not {xs : List Int} {lo hi : Int} {k : Nat} (hk : k < xs.length) (h : ¬ (lo ≤ xs[k] ∧ xs[k] ≤ hi)) : allB xs lo hi = false := by
  cases e : allB xs lo hi with
  | false => rfl
  | true => exact absurd (allB_iff.1 e _ (List.getElem_mem hk)) h
theorem any_allB {xs : List Int} {lo hi : Int} : (xs.any fun x => !inB x lo hi) = !allB xs lo hi := by
  rw [allB, List.not_all_eq_any_not]
theorem addAll_take_succ {ns : List Int} {i : Nat} (hi : i < ns.length) : addAll [] (ns.take (i + 1)) = addR (addAll [] (ns.take i)) ns[i] := by
  rw [List.take_succ_eq_append_getElem hi, addAll_append]; rfl
theorem asc_last {l : List Int} (h : Asc l) (n : Int) : (∀ k ∈ l, k < n) ↔ (l.length = 0 ∨ ∃ h : l.length - 1 < l.length, l[l.length - 1] < n) := by
  constructor
  · intro hk
    by_cases e : l.length = 0
    · exact .inl e
    · exact .inr ⟨by omega, hk _ (List.getElem_mem _)⟩
  · rintro (e | ⟨e, h1⟩) k hk
    · rw [List.length_eq_zero_iff.1 e] at hk; simp at hk
    · obtain ⟨j, hj, rfl⟩ := List.mem_iff_getElem.1 hk
      by_cases hje : j = l.length - 1
      · subst hje; exact h1
      · have := List.pairwise_iff_getElem.1 h j (l.length - 1) hj e (by omega); omega
/-- the reference's test of values -/
def fitB (ps : List Part) (xs : List Int) : Bool := allB xs 0 999 && decide ((xs.length : Int) ≤ 10) && (decide (((mayL ps).length : Int) = 0) || decide (at0 (mayL ps) ((mayL ps).length - 1) < (xs.length : Int)))
theorem fitB_eq {ps : List Part} {xs : List Int} (h : ValidP ps) : fitB ps xs = fitV ps xs := by
  have hl : (∀ k ∈ mayL ps, k < (xs.length : Int)) ↔ (decide (((mayL ps).length : Int) = 0) || decide (at0 (mayL ps) ((mayL ps).length - 1) < (xs.length : Int))) = true := by
    rw [asc_last (asc_mayL ps)]
    simp only [Bool.or_eq_true, decide_eq_true_eq]
    by_cases e : (mayL ps).length = 0
    · simp [e]
    · rw [← at0_eq (show (mayL ps).length - 1 < (mayL ps).length by omega)]
      constructor
      · rintro (h | ⟨_, h⟩)
        · exact absurd h e
        · exact .inr h
      · rintro (h | h)
        · omega
        · exact .inr ⟨by omega, h⟩
  rw [Bool.eq_iff_iff, fitV_iff]
  unfold fitB FitV
  rw [Bool.and_eq_true, Bool.and_eq_true, decide_eq_true_eq, ← hl, allB_iff]
  exact ⟨fun ⟨⟨a, b⟩, c⟩ => ⟨h, by omega, a, c⟩, fun ⟨_, b, a, c⟩ => ⟨⟨a, by omega⟩, c⟩⟩
theorem readL_nodup (ps : List Part) (vals : Int → Int) : (readL ps vals).Nodup := addAll_nodup List.nodup_nil
theorem readL_may {ps : List Part} (h : ValidP ps) (vals : Int → Int) {n : Int} (hn : n ∈ readL ps vals) : n ∈ mayL ps := by
  have hl := h.1
  rcases mem_addAll.1 hn with hn | hn
  · simp at hn
  · obtain ⟨p, hp, hk, e⟩ := evL_sub h.2.2.1 (ps.length - 1) (by omega) n hn
    have := h.fit p hp hk
    rw [← e]
    exact mem_mayL.2 ⟨this, p, hp, hk, rfl⟩
theorem readL_length {ps : List Part} (h : ValidP ps) (vals : Int → Int) : (readL ps vals).length ≤ 10 :=
  nodup_le (readL_nodup ps vals) fun x hx => by have := (mem_mayL.1 (readL_may h vals hx)).1; omega
/-- what is read, or nothing -/
noncomputable def rdsL (ps : List Part) (xs : List Int) : List Int := if fitV ps xs then readL ps (valF xs) else []
theorem rdsL_yes {ps : List Part} {xs : List Int} (h : fitV ps xs = true) : rdsL ps xs = readL ps (valF xs) := if_pos h
theorem rdsL_length (ps : List Part) (xs : List Int) : (rdsL ps xs).length ≤ 10 := by
  cases h : fitV ps xs with
  | true => rw [rdsL_yes h]; exact readL_length (fitV_iff.1 h).1 _
  | false => simp [rdsL, h]
theorem rdsL_nodup (ps : List Part) (xs : List Int) : (rdsL ps xs).Nodup := by
  cases h : fitV ps xs with
  | true => rw [rdsL_yes h]; exact readL_nodup _ _
  | false => simp [rdsL, h]
theorem rdsL_may (ps : List Part) (xs : List Int) : ∀ x ∈ rdsL ps xs, x ∈ mayV ps := by
  intro x hx
  cases h : fitV ps xs with
  | true =>
    rw [rdsL_yes h] at hx
    rw [mayV_yes (validF_iff.2 (fitV_iff.1 h).1)]
    exact readL_may (fitV_iff.1 h).1 _ hx
  | false => simp [rdsL, h] at hx
theorem at0_set_ne (xs : List Int) (i j : Nat) (v : Int) (h : i ≠ j) : at0 (xs.set i v) j = at0 xs j := by
  simp [at0, List.getD_eq_getElem?_getD, List.getElem?_set_ne h]
theorem at0_set_self (xs : List Int) (i : Nat) (v : Int) (h : i < xs.length) : at0 (xs.set i v) i = v := by
  simp [at0, List.getD_eq_getElem?_getD, h]
theorem unread {ps : List Part} {xs : List Int} (hf : FitV ps xs) {i : Nat} (hi : i < xs.length) {v : Int} (hv : InMod v) (hn : (i : Int) ∉ rdsL ps xs) :
    fitV ps (xs.set i v) = true ∧ valL ps (valF (xs.set i v)) = valL ps (valF xs) ∧ rdsL ps (xs.set i v) = rdsL ps xs := by
  have h1 : fitV ps (xs.set i v) = true := fitV_iff.2 ⟨hf.1, by rw [List.length_set]; exact hf.2.1, fun x hx => by
    rcases List.mem_or_eq_of_mem_set hx with h | rfl
    · exact hf.2.2.1 x h
    · exact hv, by rw [List.length_set]; exact hf.2.2.2⟩
  have hp := hf.1.1
  have he : evL ps (valF (xs.set i v)) (ps.length - 1) = evL ps (valF xs) (ps.length - 1) := by
    refine evL_congr hf.1.2.2.1 _ (by omega) fun n hm => ?_
    have hr : n ∈ readL ps (valF xs) := mem_addAll.2 (.inr hm)
    have h0 := (mem_mayL.1 (readL_may hf.1 _ hr)).1
    have hne : i ≠ n.toNat := fun e => hn (by rw [rdsL_yes (fitV_iff.2 hf), show (i : Int) = n by omega]; exact hr)
    exact at0_set_ne _ _ _ _ hne
  refine ⟨h1, by unfold valL; rw [he], ?_⟩
  rw [rdsL_yes h1, rdsL_yes (fitV_iff.2 hf)]
  unfold readL; rw [he]
theorem fit_ten {ps : List Part} {xs : List Int} (h : ValidP ps) (hl : xs.length = 10) (hx : ∀ x ∈ xs, InMod x) : fitV ps xs = true :=
  fitV_iff.2 ⟨h, by omega, hx, fun k hk => by have := (mem_mayL.1 hk).1; omega⟩
theorem valL_in {ps : List Part} {xs : List Int} (hf : FitV ps xs) : InMod (valL ps (valF xs)) := by
  have hp := hf.1.1
  refine evL_in hf.1.2.2.1 (fun p hp hk => ?_) _ (by omega)
  have h1 := hf.1.fit p hp hk
  have h2 := hf.2.2.2 _ (mem_mayL.2 ⟨h1, p, hp, hk, rfl⟩)
  have h3 := hf.2.2.1 (xs[p.n.toNat]'(by omega)) (List.getElem_mem _)
  rw [at0_eq] at h3
  exact h3
theorem ordL_le (ps : List Part) : (ordL ps).length ≤ 12 := by
  cases h : validF ps with
  | true => rw [ordL_length (validF_iff.1 h)]; exact (validF_iff.1 h).2.1
  | false => simp [ordL, h]
theorem ordL_vals {ps : List Part} (h : ValidP ps) {xs : List Int} (hl : xs.length = 10) (hx : ∀ x ∈ xs, InMod x) : valL (ordL ps) (valF xs) = valL ps (valF xs) ∧ rdsL ps xs = rdsL (ordL ps) xs := by
  have he := ordL_eval h (valF xs)
  refine ⟨by unfold valL; rw [he], ?_⟩
  rw [rdsL_yes (fit_ten h hl hx), rdsL_yes (fit_ten (ordL_valid h) hl hx)]
  unfold readL; rw [he]
theorem renL_value {ps : List Part} {to V moved : List Int} (h : RenOk ps to) (hm : ∀ j, j < to.length → at0 moved j = at0 V (at0 to j).toNat) : valL (renL ps to) (valF V) = valL ps (valF moved) := by
  have hp := h.1.1
  have hl : (renL ps to).length = ps.length := by rw [renL_ok h]; simp
  unfold valL
  rw [hl, evL_ren h _ _ (by omega)]
  dsimp only
  rw [evL_congr h.1.2.2.1 (vals := valF moved) (vals' := fun n => valF V (at0 to n.toNat)) _ (by omega)]
  intro n hn
  obtain ⟨p, hp', hk, e⟩ := evL_sub h.1.2.2.1 (ps.length - 1) (by omega) n hn
  obtain ⟨i, hi, rfl⟩ := List.mem_iff_getElem.1 hp'
  have h1 := h.2.2.2 i hi hk
  have h2 := h.1.reads hi hk
  show at0 V (at0 to n.toNat).toNat = at0 moved n.toNat
  rw [hm _ (by omega)]
/-- the values with which the laws try a formula -/
def valsU (k n : Nat) : List Int := (List.range n).map fun (j : Nat) => ((j : Int) * 7 + (k : Int) * k * 13) % ((k : Int) + 3)
theorem valsU_succ (k n : Nat) : valsU k n ++ [((n : Int) * 7 + (k : Int) * k * 13) % ((k : Int) + 3)] = valsU k (n + 1) := by simp [valsU, List.range_succ]
@[simp] theorem valsU_length (k n : Nat) : (valsU k n).length = n := by simp [valsU]
theorem valsU_in {k n : Nat} (hk : k ≤ 5) : ∀ x ∈ valsU k n, InMod x := by
  intro x hx
  simp only [valsU, List.mem_map] at hx
  obtain ⟨j, _, rfl⟩ := hx
  have h1 := Int.emod_nonneg ((j : Int) * 7 + (k : Int) * k * 13) (show (k : Int) + 3 ≠ 0 by omega)
  have h2 := Int.emod_lt_of_pos ((j : Int) * 7 + (k : Int) * k * 13) (show 0 < (k : Int) + 3 by omega)
  exact ⟨h1, by omega⟩
end SG
