/- Plain data: parts of formulas and the like. No program here. -/
namespace SG
set_option linter.unusedSimpArgs false
structure Part where
  kind : Int
  a : Int
  b : Int
  c : Int
  n : Int
  deriving DecidableEq, Inhabited
structure Act3 where
  kind : Int
  node : Int
  value : Int
  deriving DecidableEq, Inhabited
/-- a node of a graph -/
structure Nd where
  kind : Int
  parts : List Part
  deriving DecidableEq, Inhabited
def inB (n lo hi : Int) : Bool := decide (lo ≤ n) && decide (n ≤ hi)
theorem inB_iff {n lo hi : Int} : inB n lo hi = true ↔ lo ≤ n ∧ n ≤ hi := by simp [inB]
theorem inB_not {n lo hi : Int} : inB n lo hi = false ↔ ¬ (lo ≤ n ∧ n ≤ hi) := by rw [← inB_iff]; cases inB n lo hi <;> simp
def aloneB (p : Part) : Bool :=
  if p.kind = 0 then inB p.n 0 99 && decide (p.a = -1) && decide (p.b = -1) && decide (p.c = -1)
  else if p.kind = 1 then inB p.n 0 9 && decide (p.a = -1) && decide (p.b = -1) && decide (p.c = -1)
  else if p.kind = 8 then decide (p.n = 0)
  else if inB p.kind 2 7 then decide (p.n = 0) && decide (p.c = -1)
  else false
def belowL (p : Part) : List Int :=
  if p.kind = 8 then [p.a, p.b, p.c] else if inB p.kind 2 7 then [p.a, p.b] else []
def GoodAt (p : Part) (i : Nat) : Prop := aloneB p = true ∧ ∀ k ∈ belowL p, 0 ≤ k ∧ k < i
def ValidP (ps : List Part) : Prop :=
  1 ≤ ps.length ∧ ps.length ≤ 12 ∧ (∀ i (h : i < ps.length), GoodAt ps[i] i) ∧ ∀ j : Nat, j + 1 < ps.length → (ps.flatMap belowL).count (j : Int) = 1
open Classical in
noncomputable def validF (ps : List Part) : Bool := decide (ValidP ps)
theorem validF_iff {ps : List Part} : validF ps = true ↔ ValidP ps := by simp [validF]
theorem validF_not {ps : List Part} : validF ps = false ↔ ¬ ValidP ps := by simp [validF]

/-- how often each index is below a part -/
def usedL (n : Nat) (ks : List Int) : List Int := (List.range n).map fun (j : Nat) => ((ks.count (j : Int) : Nat) : Int)
@[simp] theorem usedL_length (n : Nat) (ks : List Int) : (usedL n ks).length = n := by simp [usedL]
theorem usedL_get? (n : Nat) (ks : List Int) (k : Nat) : (usedL n ks)[k]? = if k < n then some ((ks.count (k : Int) : Nat) : Int) else none := by
  unfold usedL
  rw [List.getElem?_map]
  split
  · rename_i h; rw [List.getElem?_range h]; rfl
  · rename_i h; rw [List.getElem?_eq_none (by simpa using h)]; rfl
theorem usedL_nil (n : Nat) : usedL n [] = List.replicate n 0 := by
  apply List.ext_getElem?
  intro i
  rw [usedL_get?, List.getElem?_replicate]
  rfl
theorem usedL_get (n : Nat) (ks : List Int) (k : Nat) (h : k < (usedL n ks).length) : (usedL n ks)[k] = ((ks.count (k : Int) : Nat) : Int) := by
  have := usedL_get? n ks k
  rw [List.getElem?_eq_getElem h, if_pos (by simpa using h)] at this
  simpa using this
theorem usedL_snoc (n : Nat) (ks : List Int) (k : Nat) (h : k < (usedL n ks).length) : (usedL n ks).set k ((usedL n ks)[k] + 1) = usedL n (ks ++ [(k : Int)]) := by
  apply List.ext_getElem?
  intro i
  have hk : k < n := by simpa using h
  have e := usedL_get n ks k h
  generalize (usedL n ks)[k] = x at e ⊢
  subst e
  rw [List.getElem?_set, usedL_get?, usedL_get?]
  by_cases hi : k = i
  · subst hi
    simp [hk, List.count_append]
  · have : ¬ ((k : Int) = (i : Int)) := by omega
    simp [hi, List.count_append, this]
theorem usedL_snocI (n : Nat) (ks : List Int) (x : Int) (h0 : 0 ≤ x) (h : x.toNat < (usedL n ks).length) : (usedL n ks).set x.toNat ((usedL n ks)[x.toNat] + 1) = usedL n (ks ++ [x]) := by
  have := usedL_snoc n ks x.toNat h
  rwa [Int.toNat_of_nonneg h0] at this
theorem usedL_bound (n : Nat) (ks : List Int) (k : Nat) (h : k < (usedL n ks).length) : 0 ≤ (usedL n ks)[k] ∧ (usedL n ks)[k] ≤ ks.length := by
  rw [usedL_get]
  exact ⟨by omega, by have := List.count_le_length (a := (k : Int)) (l := ks); omega⟩
theorem belowL_short (p : Part) : (belowL p).length ≤ 3 := by
  unfold belowL
  split
  · simp
  · split <;> simp
theorem flatMap_below_length (xs : List Part) : (xs.flatMap belowL).length ≤ 3 * xs.length := by
  induction xs with
  | nil => simp
  | cons x xs ih =>
    have := belowL_short x
    simp only [List.flatMap_cons, List.length_append, List.length_cons]
    omega
theorem take_succ_flatMap {α β : Type} (f : α → List β) (xs : List α) (i : Nat) (h : i < xs.length) : (xs.take (i + 1)).flatMap f = (xs.take i).flatMap f ++ f xs[i] := by
  rw [List.take_succ_eq_append_getElem h, List.flatMap_append]; simp [List.flatMap]
def arityI (k : Int) : Int := if k = 0 ∨ k = 1 then 0 else if 2 ≤ k ∧ k ≤ 7 then 2 else if k = 8 then 3 else -1
def numPart (k : Int) : Part := ⟨0, -1, -1, -1, k⟩
def goodB (p : Part) (i : Int) : Bool :=
  if arityI p.kind = 0 then decide (p.a = -1) && decide (p.b = -1) && decide (p.c = -1) && inB p.n 0 (if p.kind = 1 then 9 else 99)
  else if arityI p.kind = 2 then inB p.a 0 (i - 1) && inB p.b 0 (i - 1) && decide (p.c = -1) && decide (p.n = 0)
  else if arityI p.kind = 3 then inB p.a 0 (i - 1) && inB p.b 0 (i - 1) && inB p.c 0 (i - 1) && decide (p.n = 0)
  else false
theorem belowL_ar2 {p : Part} (h : arityI p.kind = 2) : belowL p = [p.a, p.b] := by
  unfold arityI at h
  have h1 : 2 ≤ p.kind ∧ p.kind ≤ 7 := by (repeat' split at h) <;> omega
  simp [belowL, inB, h1, show p.kind ≠ 8 by omega]
theorem belowL_ar3 {p : Part} (h : arityI p.kind = 3) : belowL p = [p.a, p.b, p.c] := by
  unfold arityI at h
  have h1 : p.kind = 8 := by (repeat' split at h) <;> omega
  simp [belowL, h1]
theorem belowL_ar0 {p : Part} (h : ¬ arityI p.kind = 2) (h' : ¬ arityI p.kind = 3) : belowL p = [] := by
  unfold arityI at h h'
  have h1 : p.kind ≠ 8 ∧ ¬ (2 ≤ p.kind ∧ p.kind ≤ 7) := by
    refine ⟨fun e => h' (by simp [e]), fun e => h ?_⟩
    rw [if_neg (by omega), if_pos e]
  simp [belowL, inB, h1.1]; omega
theorem goodB_iff {p : Part} {i : Nat} : goodB p i = true ↔ GoodAt p i := by
  unfold goodB GoodAt aloneB
  by_cases k0 : p.kind = 0
  · simp [k0, arityI, belowL, inB]; constructor <;> (intro h; simp_all)
  by_cases k1 : p.kind = 1
  · simp [k1, arityI, belowL, inB]; constructor <;> (intro h; simp_all)
  by_cases k8 : p.kind = 8
  · simp [k8, arityI, belowL, inB]
    constructor
    · rintro ⟨⟨⟨a, b⟩, c⟩, d⟩; exact ⟨d, by omega, by omega, by omega⟩
    · rintro ⟨d, a, b, c⟩; exact ⟨⟨⟨by omega, by omega⟩, by omega⟩, d⟩
  by_cases k2 : 2 ≤ p.kind ∧ p.kind ≤ 7
  · have e : arityI p.kind = 2 := by unfold arityI; rw [if_neg (by omega), if_pos k2]
    have e' : inB p.kind 2 7 = true := inB_iff.2 k2
    simp only [k0, k1, k8, e, belowL, e', if_true, if_false, Bool.and_eq_true, decide_eq_true_eq, inB_iff, List.mem_cons, List.not_mem_nil, or_false, forall_eq_or_imp, forall_eq]
    simp only [show ¬ ((2 : Int) = 0) by decide, if_false, Bool.and_eq_true, decide_eq_true_eq, inB_iff]
    constructor
    · rintro ⟨⟨⟨a, b⟩, c⟩, d⟩; exact ⟨⟨d, c⟩, by omega, by omega⟩
    · rintro ⟨⟨d, c⟩, a, b⟩; exact ⟨⟨⟨by omega, by omega⟩, c⟩, d⟩
  · have e : arityI p.kind = -1 := by unfold arityI; rw [if_neg (by omega), if_neg k2, if_neg k8]
    have e' : inB p.kind 2 7 = false := inB_not.2 k2
    simp [k0, k1, k8, e, e']
end SG
