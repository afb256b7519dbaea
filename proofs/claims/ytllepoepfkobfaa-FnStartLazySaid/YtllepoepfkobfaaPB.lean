/- Plain data: ways in graphs; which nodes; heights. No program here. -/
import Derived.Test.YtllepoepfkobfaaPA
namespace SG
set_option linter.unusedSimpArgs false
set_option linter.unusedVariables false
def mayAt (gs : List Nd) (i : Nat) : List Int := match gs[i]? with
  | none => []
  | some n => mayL n.parts
theorem mayAt_eq {gs : List Nd} {i : Nat} (h : i < gs.length) : mayAt gs i = mayL gs[i].parts := by simp [mayAt, h]
theorem mayAt_in {gs : List Nd} {i : Nat} {k : Int} (h : k ∈ mayAt gs i) : i < gs.length := by
  refine Classical.byContradiction fun hn => ?_
  simp [mayAt, List.getElem?_eq_none (show gs.length ≤ i by omega)] at h
theorem mayL_nil : mayL [] = [] := by
  refine List.eq_nil_iff_forall_not_mem.2 fun n hn => ?_
  obtain ⟨_, p, hp, _⟩ := mem_mayL.1 hn
  simp at hp
theorem mayAt_lt {gs : List Nd} (hV : ValidG gs) {i : Nat} {k : Int} (h : k ∈ mayAt gs i) : 0 ≤ k ∧ k < i ∧ kindAt gs k ≠ 2 := by
  have hi := mayAt_in h
  rw [mayAt_eq hi] at h
  have h0 := (mem_mayL.1 h).1
  rcases hV.2 i hi with ⟨_, e⟩ | ⟨_, _, hr⟩
  · rw [e, mayL_nil] at h; simp at h
  · have := hr k h; exact ⟨h0.1, this.1, this.2⟩
theorem mayAt_asc (gs : List Nd) (i : Nat) : Asc (mayAt gs i) := by
  unfold mayAt
  split
  · exact List.Pairwise.nil
  · exact asc_mayL _
theorem mayAt_length (gs : List Nd) (i : Nat) : (mayAt gs i).length ≤ 10 := by
  unfold mayAt
  split
  · simp
  · exact mayL_length _
/-- a way leads from n to i -/
def reachB (gs : List Nd) (n i : Nat) : Bool := if i = n then true else (mayAt gs i).any fun k => if h : k.toNat < i then reachB gs n k.toNat else false
termination_by i
decreasing_by exact h
theorem reach_iff {gs : List Nd} (hV : ValidG gs) {n i : Nat} : reachB gs n i = true ↔ i = n ∨ ∃ k ∈ mayAt gs i, reachB gs n k.toNat = true := by
  rw [reachB]
  split
  · rename_i h; simp [h]
  · rename_i h
    simp only [h, false_or, List.any_eq_true]
    constructor
    · rintro ⟨k, hk, hr⟩
      split at hr
      · exact ⟨k, hk, hr⟩
      · cases hr
    · rintro ⟨k, hk, hr⟩
      have := mayAt_lt hV hk
      exact ⟨k, hk, by rw [dif_pos (by omega)]; exact hr⟩
theorem reach_self (gs : List Nd) (n : Nat) : reachB gs n n = true := by rw [reachB]; simp
theorem reach_step {gs : List Nd} (hV : ValidG gs) {n i : Nat} {k : Int} (hk : k ∈ mayAt gs i) (h : reachB gs n k.toNat = true) : reachB gs n i = true := (reach_iff hV).2 (.inr ⟨k, hk, h⟩)
theorem reach_le {gs : List Nd} (hV : ValidG gs) {n : Nat} : ∀ {i : Nat}, reachB gs n i = true → n ≤ i := by
  intro i
  induction i using Nat.strongRecOn with
  | _ i ih =>
    intro h
    rcases (reach_iff hV).1 h with rfl | ⟨k, hk, hr⟩
    · exact Nat.le_refl _
    · have h1 := mayAt_lt hV hk
      have := ih k.toNat (by omega) hr
      omega
theorem reach_trans {gs : List Nd} (hV : ValidG gs) {n j : Nat} (h0 : reachB gs n j = true) : ∀ {i : Nat}, reachB gs j i = true → reachB gs n i = true := by
  intro i
  induction i using Nat.strongRecOn with
  | _ i ih =>
    intro h
    rcases (reach_iff hV).1 h with rfl | ⟨k, hk, hr⟩
    · exact h0
    · have h1 := mayAt_lt hV hk
      exact reach_step hV hk (ih k.toNat (by omega) hr)
theorem reach_first {gs : List Nd} (hV : ValidG gs) {n : Nat} : ∀ {i : Nat}, reachB gs n i = true ↔ i = n ∨ ∃ j, (n : Int) ∈ mayAt gs j ∧ reachB gs j i = true := by
  intro i
  induction i using Nat.strongRecOn with
  | _ i ih =>
    constructor
    · intro h
      rcases (reach_iff hV).1 h with rfl | ⟨k, hk, hr⟩
      · exact .inl rfl
      · have h1 := mayAt_lt hV hk
        rcases (ih k.toNat (by omega)).1 hr with e | ⟨j, hj, hr'⟩
        · exact .inr ⟨i, by rw [← e, show ((k.toNat : Nat) : Int) = k by omega]; exact hk, reach_self gs i⟩
        · exact .inr ⟨j, hj, reach_step hV hk hr'⟩
    · rintro (rfl | ⟨j, hj, hr⟩)
      · exact reach_self gs i
      · exact reach_trans hV (reach_step hV hj (by rw [Int.toNat_natCast]; exact reach_self gs n)) hr
/-- the numbers below n for which something holds -/
def whichL (n : Nat) (p : Nat → Bool) : List Int := ((List.range n).filter p).map fun (k : Nat) => (k : Int)
theorem whichL_zero (p : Nat → Bool) : whichL 0 p = [] := rfl
theorem whichL_yes {n : Nat} {p : Nat → Bool} (h : p n = true) : whichL n p ++ [(n : Int)] = whichL (n + 1) p := by simp [whichL, List.range_succ, h]
theorem whichL_no {n : Nat} {p : Nat → Bool} (h : p n = false) : whichL n p = whichL (n + 1) p := by simp [whichL, List.range_succ, h]
theorem mem_whichL {n : Nat} {p : Nat → Bool} {x : Int} : x ∈ whichL n p ↔ ∃ k, k < n ∧ p k = true ∧ (k : Int) = x := by
  simp [whichL, and_assoc]
theorem whichL_contains {n i : Nat} {p : Nat → Bool} : (whichL n p).contains (i : Int) = (decide (i < n) && p i) := by
  rw [Bool.eq_iff_iff, List.contains_iff_mem, mem_whichL]
  simp only [Bool.and_eq_true, decide_eq_true_eq]
  constructor
  · rintro ⟨k, hk, hp, e⟩
    obtain rfl : k = i := by omega
    exact ⟨hk, hp⟩
  · rintro ⟨h1, h2⟩
    exact ⟨i, h1, h2, rfl⟩
theorem whichL_length (n : Nat) (p : Nat → Bool) : (whichL n p).length ≤ n := by
  unfold whichL
  rw [List.length_map]
  have := List.length_filter_le p (List.range n)
  simpa using this
theorem whichL_asc (n : Nat) (p : Nat → Bool) : Asc (whichL n p) := by
  unfold whichL Asc
  refine List.Pairwise.map _ (fun a b (h : a < b) => by omega) ?_
  exact List.Pairwise.filter _ List.pairwise_lt_range
theorem whichL_congr {n : Nat} {p q : Nat → Bool} (h : ∀ k, k < n → p k = q k) : whichL n p = whichL n q := by
  unfold whichL
  congr 1
  refine List.filter_congr fun k hk => h k (by simpa using hk)
def usesB (gs : List Nd) (n : Int) (i : Nat) : Bool := (mayAt gs i).contains n
/-- heights -/
def maxes (f : Int → Int) (ks : List Int) (h : Int) : Int := ks.foldl (fun h k => if h < f k then f k else h) h
theorem maxes_take {f : Int → Int} {ks : List Int} {i : Nat} (hi : i < ks.length) (h : Int) : maxes f (ks.take (i + 1)) h = (if maxes f (ks.take i) h < f ks[i] then f ks[i] else maxes f (ks.take i) h) := by
  unfold maxes
  rw [List.take_succ_eq_append_getElem hi, List.foldl_append]; rfl
theorem maxes_ge {f : Int → Int} : ∀ {ks : List Int} {h : Int}, h ≤ maxes f ks h ∧ ∀ k ∈ ks, f k ≤ maxes f ks h := by
  intro ks
  induction ks with
  | nil => intro h; exact ⟨Int.le_refl _, fun k hk => by simp at hk⟩
  | cons a ks ih =>
    intro h
    have e : maxes f (a :: ks) h = maxes f ks (if h < f a then f a else h) := rfl
    have := @ih (if h < f a then f a else h)
    rw [e]
    refine ⟨?_, fun k hk => ?_⟩
    · have h1 := this.1; split at h1 <;> split <;> omega
    · rcases List.mem_cons.1 hk with rfl | hk
      · have h1 := this.1; split at h1 <;> split <;> omega
      · exact this.2 k hk
theorem maxes_one {f : Int → Int} : ∀ {ks : List Int} {h : Int}, maxes f ks h = h ∨ ∃ k ∈ ks, maxes f ks h = f k := by
  intro ks
  induction ks with
  | nil => intro h; exact .inl rfl
  | cons a ks ih =>
    intro h
    have e : maxes f (a :: ks) h = maxes f ks (if h < f a then f a else h) := rfl
    rw [e]
    rcases @ih (if h < f a then f a else h) with h1 | ⟨k, hk, h1⟩
    · rw [h1]
      split
      · exact .inr ⟨a, List.mem_cons_self .., rfl⟩
      · exact .inl rfl
    · exact .inr ⟨k, List.mem_cons_of_mem _ hk, h1⟩
def hgtUp (gs : List Nd) : Nat → List Int
  | 0 => []
  | k + 1 => hgtUp gs k ++ [maxes (fun j => at0 (hgtUp gs k) j.toNat + 1) (mayAt gs k) 0]
@[simp] theorem hgtUp_length (gs : List Nd) (k : Nat) : (hgtUp gs k).length = k := by
  induction k with
  | zero => rfl
  | succ k ih => simp [hgtUp, ih]
theorem at0_append_left {xs ys : List Int} {j : Nat} (h : j < xs.length) : at0 (xs ++ ys) j = at0 xs j := by
  simp [at0, List.getD_eq_getElem?_getD, List.getElem?_append_left h]
theorem at0_append_last {xs : List Int} {y : Int} : at0 (xs ++ [y]) xs.length = y := by
  simp [at0, List.getD_eq_getElem?_getD]
theorem hgtUp_at {gs : List Nd} {j : Nat} : ∀ {k : Nat}, j < k → at0 (hgtUp gs k) j = at0 (hgtUp gs (j + 1)) j := by
  intro k
  induction k with
  | zero => intro h; omega
  | succ k ih =>
    intro h
    by_cases e : j = k
    · subst e; rfl
    · show at0 (hgtUp gs k ++ _) j = _
      rw [at0_append_left (by simp; omega)]
      exact ih (by omega)
def hgt (gs : List Nd) (i : Nat) : Int := at0 (hgtUp gs (i + 1)) i
theorem hgt_eq {gs : List Nd} (hV : ValidG gs) (i : Nat) : hgt gs i = maxes (fun j => hgt gs j.toNat + 1) (mayAt gs i) 0 := by
  have e : hgt gs i = maxes (fun j => at0 (hgtUp gs i) j.toNat + 1) (mayAt gs i) 0 := by
    have := at0_append_last (xs := hgtUp gs i) (y := maxes (fun j => at0 (hgtUp gs i) j.toNat + 1) (mayAt gs i) 0)
    rw [hgtUp_length] at this
    exact this
  rw [e]
  have key : ∀ (ks : List Int) (h : Int), (∀ k ∈ ks, 0 ≤ k ∧ k < i) → maxes (fun j => at0 (hgtUp gs i) j.toNat + 1) ks h = maxes (fun j => hgt gs j.toNat + 1) ks h := by
    intro ks
    induction ks with
    | nil => intro h _; rfl
    | cons a ks ih =>
      intro h hk
      have ha := hk a (List.mem_cons_self ..)
      have e1 : at0 (hgtUp gs i) a.toNat = hgt gs a.toNat := hgtUp_at (by omega)
      show maxes _ ks _ = maxes _ ks _
      simp only [e1]
      exact ih _ (fun k h' => hk k (List.mem_cons_of_mem _ h'))
  exact key _ _ fun k hk => by have := mayAt_lt hV hk; omega
theorem hgt_nonneg (gs : List Nd) (hV : ValidG gs) (i : Nat) : 0 ≤ hgt gs i := by rw [hgt_eq hV]; exact maxes_ge.1
theorem hgt_gt {gs : List Nd} (hV : ValidG gs) {i : Nat} {k : Int} (h : k ∈ mayAt gs i) : hgt gs k.toNat < hgt gs i := by
  rw [hgt_eq hV i]
  have := (maxes_ge (f := fun j => hgt gs j.toNat + 1) (ks := mayAt gs i) (h := 0)).2 k h
  omega
theorem hgt_le {gs : List Nd} (hV : ValidG gs) : ∀ (i : Nat), hgt gs i ≤ i := by
  intro i
  induction i using Nat.strongRecOn with
  | _ i ih =>
    rw [hgt_eq hV]
    rcases maxes_one (f := fun j => hgt gs j.toNat + 1) (ks := mayAt gs i) (h := 0) with h | ⟨k, hk, h⟩
    · rw [h]; omega
    · have h1 := mayAt_lt hV hk
      have := ih k.toNat (by omega)
      rw [h]
      omega
theorem hgt_zero {gs : List Nd} (hV : ValidG gs) (i : Nat) : hgt gs i = 0 ↔ mayAt gs i = [] := by
  constructor
  · intro h
    refine List.eq_nil_iff_forall_not_mem.2 fun k hk => ?_
    have h1 := hgt_gt hV hk
    have h2 := hgt_nonneg gs hV k.toNat
    omega
  · intro h
    rw [hgt_eq hV, h]; rfl
/-- a way leads from i to one of some nodes -/
def needB (gs : List Nd) (of : List Int) (i : Nat) : Bool := of.any fun o => reachB gs i o.toNat
theorem need_iff {gs : List Nd} (hV : ValidG gs) {of : List Int} (h0 : ∀ o ∈ of, 0 ≤ o) {i : Nat} : needB gs of i = true ↔ (i : Int) ∈ of ∨ ∃ p, (i : Int) ∈ mayAt gs p ∧ needB gs of p = true := by
  unfold needB
  simp only [List.any_eq_true]
  constructor
  · rintro ⟨o, ho, hr⟩
    have := h0 o ho
    rcases (reach_first hV).1 hr with e | ⟨j, hj, hr'⟩
    · exact .inl (by rw [← e, show ((o.toNat : Nat) : Int) = o by omega]; exact ho)
    · exact .inr ⟨j, hj, o, ho, hr'⟩
  · rintro (h | ⟨p, hp, o, ho, hr⟩)
    · exact ⟨i, h, by rw [Int.toNat_natCast]; exact reach_self gs i⟩
    · exact ⟨o, ho, (reach_first hV).2 (.inr ⟨p, hp, hr⟩)⟩
/-- what the reference knows of node j when the nodes from i on are done -/
def metB (gs : List Nd) (of : List Int) (i j : Nat) : Bool := if i ≤ j then needB gs of j else (List.range gs.length).any fun p => decide (i ≤ p) && (mayAt gs p).contains (j : Int) && needB gs of p
theorem met_end {gs : List Nd} {of : List Int} {j : Nat} : metB gs of 0 j = needB gs of j := by simp [metB]
theorem met_start {gs : List Nd} {of : List Int} {j : Nat} (h : j < gs.length) : metB gs of gs.length j = false := by
  unfold metB
  rw [if_neg (by omega), List.any_eq_false]
  intro p hp
  have := List.mem_range.1 hp
  simp; intro h; omega
theorem met_low {gs : List Nd} {of : List Int} {i j : Nat} (h : j < i) : metB gs of i j = true ↔ ∃ p, i ≤ p ∧ (j : Int) ∈ mayAt gs p ∧ needB gs of p = true := by
  unfold metB
  rw [if_neg (by omega), List.any_eq_true]
  constructor
  · rintro ⟨p, _, hp⟩
    simp only [Bool.and_eq_true, decide_eq_true_eq, List.contains_iff_mem] at hp
    exact ⟨p, hp.1.1, hp.1.2, hp.2⟩
  · rintro ⟨p, h1, h2, h3⟩
    refine ⟨p, List.mem_range.2 (mayAt_in h2), ?_⟩
    simp only [Bool.and_eq_true, decide_eq_true_eq, List.contains_iff_mem]
    exact ⟨⟨h1, h2⟩, h3⟩
theorem met_high {gs : List Nd} {of : List Int} {i j : Nat} (h : i ≤ j) : metB gs of i j = needB gs of j := by simp [metB, h]
/-- node i itself -/
theorem met_node {gs : List Nd} (hV : ValidG gs) {of : List Int} (h0 : ∀ o ∈ of, 0 ≤ o) {i : Nat} : (metB gs of (i + 1) i || of.contains (i : Int)) = needB gs of i := by
  rw [Bool.eq_iff_iff, Bool.or_eq_true, met_low (by omega), List.contains_iff_mem, need_iff hV h0]
  constructor
  · rintro (⟨p, _, h2, h3⟩ | h)
    · exact .inr ⟨p, h2, h3⟩
    · exact .inl h
  · rintro (h | ⟨p, h2, h3⟩)
    · exact .inr h
    · have := mayAt_lt hV h2
      exact .inl ⟨p, by omega, h2, h3⟩
/-- the nodes below node i -/
theorem met_next {gs : List Nd} (hV : ValidG gs) {of : List Int} {i j : Nat} (hj : j < i) : metB gs of i j = (metB gs of (i + 1) j || (needB gs of i && (mayAt gs i).contains (j : Int))) := by
  rw [Bool.eq_iff_iff, Bool.or_eq_true, met_low hj, met_low (by omega), Bool.and_eq_true, List.contains_iff_mem]
  constructor
  · rintro ⟨p, h1, h2, h3⟩
    by_cases e : p = i
    · subst e; exact .inr ⟨h3, h2⟩
    · exact .inl ⟨p, by omega, h2, h3⟩
  · rintro (⟨p, h1, h2, h3⟩ | ⟨h3, h2⟩)
    · exact ⟨p, by omega, h2, h3⟩
    · exact ⟨i, Nat.le_refl _, h2, h3⟩
theorem met_past {gs : List Nd} {of : List Int} {i j : Nat} (hj : i < j) : metB gs of (i + 1) j = metB gs of i j := by rw [met_high (by omega), met_high (by omega)]
/-- a list that is filled up to k -/
def upL {α : Type} (n k : Nat) (f : Nat → α) (z : α) : List α := (List.range n).map fun j => if j < k then f j else z
@[simp] theorem upL_length {α : Type} (n k : Nat) (f : Nat → α) (z : α) : (upL n k f z).length = n := by simp [upL]
theorem upL_zero {α : Type} (n : Nat) (f : Nat → α) (z : α) : upL n 0 f z = List.replicate n z := by
  refine List.ext_getElem (by simp) fun j h h' => ?_
  simp [upL]
theorem upL_full {α : Type} {n k : Nat} (h : n ≤ k) (f : Nat → α) (z : α) : upL n k f z = (List.range n).map f := by
  refine List.ext_getElem (by simp) fun j h1 h2 => ?_
  simp [upL] at h1 ⊢
  intro h3; omega
theorem upL_get {α : Type} {n k j : Nat} {f : Nat → α} {z : α} (h : j < (upL n k f z).length) : (upL n k f z)[j] = if j < k then f j else z := by simp [upL]
theorem upL_set {α : Type} {n k : Nat} {f : Nat → α} {z : α} (h : k < n) : (upL n k f z).set k (f k) = upL n (k + 1) f z := by
  refine List.ext_getElem (by simp) fun j h1 h2 => ?_
  rw [List.getElem_set, upL_get, upL_get]
  by_cases e : k = j
  · subst e; simp
  · rw [if_neg e]
    by_cases h3 : j < k
    · rw [if_pos h3, if_pos (by omega)]
    · rw [if_neg h3, if_neg (by omega)]
/-- the marks of the ways from n, before the nodes behind n are looked at -/
theorem upL_reach {gs : List Nd} (hV : ValidG gs) {n m : Nat} (hn : n < m) : (List.replicate m false).set n true = upL m (n + 1) (reachB gs n) false := by
  refine List.ext_getElem (by simp) fun j h1 h2 => ?_
  rw [List.getElem_set, upL_get]
  by_cases e : n = j
  · subst e; simp [reach_self]
  · rw [if_neg e]
    simp only [List.getElem_replicate]
    split
    · cases hr : reachB gs n j with
      | false => rfl
      | true => have := reach_le hV hr; omega
    · rfl
/-- a node behind n is reached if one that it has is -/
theorem reach_any {gs : List Nd} (hV : ValidG gs) {n i : Nat} (h : n < i) : reachB gs n i = (mayAt gs i).any fun k => reachB gs n k.toNat := by
  rw [Bool.eq_iff_iff, reach_iff hV, List.any_eq_true]
  exact ⟨fun h1 => h1.resolve_left (by omega), fun h1 => .inr h1⟩
theorem any_take_succ {α : Type} {p : α → Bool} {ks : List α} {t : Nat} (ht : t < ks.length) : (ks.take (t + 1)).any p = ((ks.take t).any p || p ks[t]) := by
  rw [List.take_succ_eq_append_getElem ht, List.any_append]; simp
end SG

/- Plain data: what the nodes of a graph mean. No program here. -/
namespace SG
set_option linter.unusedSimpArgs false
set_option linter.unusedVariables false
def meanUp (gs : List Nd) (xs : List Int) : Nat → List Int
  | 0 => []
  | k + 1 => meanUp gs xs k ++ [match gs[k]? with
    | none => 0
    | some n => if n.kind = 0 then at0 xs k else valL n.parts (valF (meanUp gs xs k))]
@[simp] theorem meanUp_length (gs : List Nd) (xs : List Int) (k : Nat) : (meanUp gs xs k).length = k := by
  induction k with
  | zero => rfl
  | succ k ih => simp [meanUp, ih]
theorem meanUp_at {gs : List Nd} {xs : List Int} {j : Nat} : ∀ {k : Nat}, j < k → at0 (meanUp gs xs k) j = at0 (meanUp gs xs (j + 1)) j := by
  intro k
  induction k with
  | zero => intro h; omega
  | succ k ih =>
    intro h
    by_cases e : j = k
    · subst e; rfl
    · show at0 (meanUp gs xs k ++ _) j = _
      rw [at0_append_left (by simp; omega)]
      exact ih (by omega)
/-- the value of a node -/
def mean (gs : List Nd) (xs : List Int) (i : Nat) : Int := at0 (meanUp gs xs (i + 1)) i
theorem meanUp_get {gs : List Nd} {xs : List Int} {j k : Nat} (h : j < k) : at0 (meanUp gs xs k) j = mean gs xs j := meanUp_at h
theorem mean_last {gs : List Nd} {xs : List Int} {i : Nat} (hi : i < gs.length) : mean gs xs i = if gs[i].kind = 0 then at0 xs i else valL gs[i].parts (valF (meanUp gs xs i)) := by
  have := at0_append_last (xs := meanUp gs xs i) (y := match gs[i]? with
    | none => 0
    | some n => if n.kind = 0 then at0 xs i else valL n.parts (valF (meanUp gs xs i)))
  rw [meanUp_length] at this
  rw [List.getElem?_eq_getElem hi] at this
  have h2 : mean gs xs i = at0 (meanUp gs xs (i + 1)) i := rfl
  rw [h2]
  show at0 (meanUp gs xs i ++ [match gs[i]? with
    | none => 0
    | some n => if n.kind = 0 then at0 xs i else valL n.parts (valF (meanUp gs xs i))]) i = _
  rw [List.getElem?_eq_getElem hi]
  exact this
theorem goodNd_der {gs : List Nd} (hV : ValidG gs) {i : Nat} (hi : i < gs.length) (hk : gs[i].kind ≠ 0) : (gs[i].kind = 1 ∨ gs[i].kind = 2) ∧ ValidP gs[i].parts ∧ ReadsOk gs i gs[i].parts := by
  rcases hV.2 i hi with ⟨h, _⟩ | h
  · exact absurd h hk
  · exact h
/-- values of a formula's nodes, told by two lists -/
theorem evL_same {gs : List Nd} (hV : ValidG gs) {i : Nat} (hi : i < gs.length) (hk : gs[i].kind ≠ 0) {v v' : Int → Int} (h : ∀ k ∈ mayAt gs i, v' k = v k) : evL gs[i].parts v' (gs[i].parts.length - 1) = evL gs[i].parts v (gs[i].parts.length - 1) := by
  have hg := (goodNd_der hV hi hk).2
  have hp := hg.1.1
  refine evL_congr hg.1.2.2.1 _ (by omega) fun n hn => h n ?_
  obtain ⟨p, hp', hk', e⟩ := evL_sub hg.1.2.2.1 (gs[i].parts.length - 1) (by omega) n hn
  rw [mayAt_eq hi, ← e]
  have := hg.1.fit p hp' hk'
  exact mem_mayL.2 ⟨this, p, hp', hk', rfl⟩
theorem mean_eq {gs : List Nd} (hV : ValidG gs) {xs : List Int} {i : Nat} (hi : i < gs.length) (hk : gs[i].kind ≠ 0) {v : Int → Int} (h : ∀ k, k < i → v k = mean gs xs k) : valL gs[i].parts v = mean gs xs i := by
  rw [mean_last hi, if_neg hk]
  unfold valL
  rw [evL_same hV hi hk (v := valF (meanUp gs xs i)) (v' := v)]
  intro k hk'
  have h1 := mayAt_lt hV hk'
  have h2 := h k.toNat (by omega)
  rw [show ((k.toNat : Nat) : Int) = k by omega] at h2
  rw [h2]
  exact (meanUp_get (by omega)).symm
theorem mean_in {gs : List Nd} (hV : ValidG gs) {xs : List Int} (hx : CellsOk gs xs) : ∀ (i : Nat), i < gs.length → InMod (mean gs xs i) := by
  intro i
  induction i using Nat.strongRecOn with
  | _ i ih =>
    intro hi
    rw [mean_last hi]
    split
    · have hil : i < xs.length := by rw [hx.1]; exact hi
      have := (hx.2 i hil hi).1
      rw [at0_eq] at this
      exact this
    · rename_i hk
      have hg := (goodNd_der hV hi hk).2
      have hp := hg.1.1
      refine evL_in hg.1.2.2.1 (fun p hp' hk' => ?_) _ (by omega)
      have h1 := hg.1.fit p hp' hk'
      have h2 := hg.2 _ (mem_mayL.2 ⟨h1, p, hp', hk', rfl⟩)
      show InMod (at0 (meanUp gs xs i) p.n.toNat)
      rw [meanUp_get (by omega)]
      exact ih p.n.toNat (by omega) (by omega)
/-- the values of all nodes -/
def meanL (gs : List Nd) (xs : List Int) : List Int := meanUp gs xs gs.length
@[simp] theorem meanL_length (gs : List Nd) (xs : List Int) : (meanL gs xs).length = gs.length := by simp [meanL]
theorem meanL_at {gs : List Nd} {xs : List Int} {i : Nat} (h : i < gs.length) : at0 (meanL gs xs) i = mean gs xs i := meanUp_get h
theorem meanL_get {gs : List Nd} {xs : List Int} {i : Nat} (h : i < (meanL gs xs).length) : (meanL gs xs)[i] = mean gs xs i := by rw [at0_eq]; exact meanL_at (by simpa using h)
theorem mean_fit {gs : List Nd} (hV : ValidG gs) {xs : List Int} (hx : CellsOk gs xs) {i : Nat} (hi : i < gs.length) (hk : gs[i].kind ≠ 0) : fitV gs[i].parts (meanL gs xs) = true := by
  have hg := (goodNd_der hV hi hk).2
  refine fitV_iff.2 ⟨hg.1, by rw [meanL_length]; exact hV.1, fun v hv => ?_, fun k hk' => by rw [meanL_length]; have := hg.2 k hk'; omega⟩
  obtain ⟨j, hj, rfl⟩ := List.mem_iff_getElem.1 hv
  rw [meanL_get]
  exact mean_in hV hx j (by simpa using hj)
theorem mean_fitUp {gs : List Nd} (hV : ValidG gs) {xs : List Int} (hx : CellsOk gs xs) {i : Nat} (hi : i < gs.length) (hk : gs[i].kind ≠ 0) : FitV gs[i].parts (meanUp gs xs i) := by
  have hg := (goodNd_der hV hi hk).2
  have h10 := hV.1
  refine ⟨hg.1, by rw [meanUp_length]; omega, fun v hv => ?_, fun k hk' => by rw [meanUp_length]; have := hg.2 k hk'; omega⟩
  obtain ⟨j, hj, rfl⟩ := List.mem_iff_getElem.1 hv
  rw [meanUp_length] at hj
  rw [at0_eq, meanUp_get hj]
  exact mean_in hV hx j (by omega)
theorem mean_val {gs : List Nd} (hV : ValidG gs) {xs : List Int} {i : Nat} (hi : i < gs.length) (hk : gs[i].kind ≠ 0) : valL gs[i].parts (valF (meanL gs xs)) = mean gs xs i :=
  mean_eq hV hi hk fun k hk' => by show at0 (meanL gs xs) (Int.toNat _) = _; rw [Int.toNat_natCast]; exact meanL_at (by omega)
/-- the nodes that a node reads -/
def depAt (gs : List Nd) (xs : List Int) (i : Nat) : List Int := match gs[i]? with
  | none => []
  | some n => if n.kind = 0 then [] else readL n.parts (valF (meanL gs xs))
theorem depAt_cell {gs : List Nd} {xs : List Int} {i : Nat} (hi : i < gs.length) (hk : gs[i].kind = 0) : depAt gs xs i = [] := by simp [depAt, hi, hk]
theorem depAt_der {gs : List Nd} {xs : List Int} {i : Nat} (hi : i < gs.length) (hk : gs[i].kind ≠ 0) : depAt gs xs i = readL gs[i].parts (valF (meanL gs xs)) := by simp [depAt, hi, hk]
theorem depAt_run {gs : List Nd} (hV : ValidG gs) {xs : List Int} {i : Nat} (hi : i < gs.length) (hk : gs[i].kind ≠ 0) {v : Int → Int} (h : ∀ k, k < i → v k = mean gs xs k) : readL gs[i].parts v = depAt gs xs i := by
  rw [depAt_der hi hk]
  unfold readL
  rw [evL_same hV hi hk (v := valF (meanL gs xs)) (v' := v)]
  intro k hk'
  have h1 := mayAt_lt hV hk'
  have h2 := h k.toNat (by omega)
  rw [show ((k.toNat : Nat) : Int) = k by omega] at h2
  rw [h2]
  exact (meanL_at (by omega)).symm
theorem depAt_may {gs : List Nd} (hV : ValidG gs) {xs : List Int} {i : Nat} : ∀ k ∈ depAt gs xs i, k ∈ mayAt gs i := by
  intro k hk
  by_cases hi : i < gs.length
  · by_cases h0 : gs[i].kind = 0
    · rw [depAt_cell hi h0] at hk; simp at hk
    · rw [depAt_der hi h0] at hk
      rw [mayAt_eq hi]
      exact readL_may (goodNd_der hV hi h0).2.1 _ hk
  · simp [depAt, List.getElem?_eq_none (show gs.length ≤ i by omega)] at hk
theorem depAt_length {gs : List Nd} (hV : ValidG gs) {xs : List Int} {i : Nat} : (depAt gs xs i).length ≤ 10 := by
  by_cases hi : i < gs.length
  · by_cases h0 : gs[i].kind = 0
    · rw [depAt_cell hi h0]; simp
    · rw [depAt_der hi h0]; exact readL_length (goodNd_der hV hi h0).2.1 _
  · simp [depAt, List.getElem?_eq_none (show gs.length ≤ i by omega)]
/-- far cells do not matter -/
theorem mean_far {gs : List Nd} (hV : ValidG gs) {xs ys : List Int} : ∀ (i : Nat), i < gs.length → (∀ c (hc : c < gs.length), gs[c].kind = 0 → reachB gs c i = true → at0 xs c = at0 ys c) → mean gs xs i = mean gs ys i := by
  intro i
  induction i using Nat.strongRecOn with
  | _ i ih =>
    intro hi h
    by_cases hk : gs[i].kind = 0
    · rw [mean_last hi, mean_last hi, if_pos hk, if_pos hk]
      exact h i hi hk (reach_self gs i)
    · rw [mean_last hi, mean_last hi, if_neg hk, if_neg hk]
      unfold valL
      rw [evL_same hV hi hk]
      intro k hk'
      have h1 := mayAt_lt hV hk'
      show at0 (meanUp gs xs i) k.toNat = at0 (meanUp gs ys i) k.toNat
      rw [meanUp_get (by omega), meanUp_get (by omega)]
      exact ih k.toNat (by omega) (by omega) fun c hc h0 hr => h c hc h0 (reach_step hV hk' hr)
theorem mean_changed {gs : List Nd} (hV : ValidG gs) {xs ys : List Int} {i : Nat} (hi : i < gs.length) (h : mean gs xs i ≠ mean gs ys i) : ∃ c, ∃ hc : c < gs.length, gs[c].kind = 0 ∧ at0 xs c ≠ at0 ys c ∧ reachB gs c i = true := by
  refine Classical.byContradiction fun hno => h (mean_far hV i hi fun c hc h0 hr => ?_)
  exact Classical.byContradiction fun hne => hno ⟨c, hc, h0, hne, hr⟩
/-- the nodes that changed -/
def diffL (gs : List Nd) (xs ys : List Int) : List Int := whichL gs.length fun i => decide (mean gs xs i ≠ mean gs ys i)
theorem diffL_swap (gs : List Nd) (xs ys : List Int) : diffL gs xs ys = diffL gs ys xs := whichL_congr fun k _ => by simp [eq_comm]
theorem diffL_same (gs : List Nd) (xs : List Int) : diffL gs xs xs = [] := by simp [diffL, whichL]
end SG

/- Plain data: lists of nodes of a graph; ways from some nodes; the reference's way upwards. No program here. -/
namespace SG
set_option linter.unusedSimpArgs false
set_option linter.unusedVariables false
theorem hgtUp_eq (gs : List Nd) (k : Nat) : hgtUp gs k = (List.range k).map (hgt gs) := by
  refine List.ext_getElem (by simp) fun j h1 h2 => ?_
  simp at h1
  have : at0 (hgtUp gs k) j = hgt gs j := hgtUp_at h1
  rw [at0, List.getD_eq_getElem?_getD, List.getElem?_eq_getElem (by simpa using h1)] at this
  simpa using this
theorem validG_node {gs : List Nd} (hV : ValidG gs) {i : Nat} (h : i < gs.length) : gs[i].parts.length ≤ 12 ∧ ReadsFit gs[i].parts := by
  rcases hV.2 i h with ⟨_, e⟩ | ⟨_, hv, _⟩
  · rw [e]; exact ⟨by simp, fun p hp => by simp at hp⟩
  · exact ⟨hv.2.1, hv.fit⟩
theorem validG_may {gs : List Nd} (hV : ValidG gs) {i : Nat} (h : i < gs.length) : mayV gs[i].parts = mayAt gs i := by
  rw [mayAt_eq h]
  rcases hV.2 i h with ⟨_, e⟩ | ⟨_, hv, _⟩
  · rw [e, mayL_nil]
    unfold mayV
    split
    · exact mayL_nil
    · rfl
  · exact mayV_yes (validF_iff.2 hv)
/-- the marks of the ways from n -/
def reachL (gs : List Nd) (n : Nat) : List Bool := (List.range gs.length).map (reachB gs n)
@[simp] theorem reachL_length (gs : List Nd) (n : Nat) : (reachL gs n).length = gs.length := by simp [reachL]
theorem reachL_get {gs : List Nd} {n i : Nat} (h : i < (reachL gs n).length) : (reachL gs n)[i] = reachB gs n i := by simp [reachL]
/-- an entry that is in the making -/
theorem upL_set0 {α : Type} {n k : Nat} {f : Nat → α} {z : α} (h : k < n) : (upL n k f z).set k z = upL n k f z := by
  refine List.ext_getElem (by simp) fun j h1 h2 => ?_
  rw [List.getElem_set, upL_get]
  by_cases e : k = j
  · subst e; simp
  · rw [if_neg e]
theorem upL_at {α : Type} {n k j : Nat} {f : Nat → α} {z b : α} (hj : j < k) (hk : k < n) (h : j < ((upL n k f z).set k b).length) : ((upL n k f z).set k b)[j] = f j := by
  rw [List.getElem_set, if_neg (by omega), upL_get, if_pos hj]
theorem upL_self {α : Type} {n k : Nat} {f : Nat → α} {z b : α} (h : k < ((upL n k f z).set k b).length) : ((upL n k f z).set k b)[k] = b := by simp
theorem upL_again {α : Type} {n k : Nat} {f : Nat → α} {z a b : α} : ((upL n k f z).set k a).set k b = (upL n k f z).set k b := by simp
/-- ways from some nodes -/
def fromB (gs : List Nd) (fs : List Int) (i : Nat) : Bool := fs.any fun o => reachB gs o.toNat i
theorem from_one (gs : List Nd) (n : Int) (i : Nat) : fromB gs [n] i = reachB gs n.toNat i := by simp [fromB]
theorem need_one (gs : List Nd) (n : Int) (i : Nat) : needB gs [n] i = reachB gs i n.toNat := by simp [needB]
theorem from_eq {gs : List Nd} (hV : ValidG gs) {fs : List Int} (h0 : ∀ o ∈ fs, 0 ≤ o) {i : Nat} : fromB gs fs i = (fs.contains (i : Int) || (mayAt gs i).any fun k => fromB gs fs k.toNat) := by
  rw [Bool.eq_iff_iff, Bool.or_eq_true, List.contains_iff_mem, List.any_eq_true]
  unfold fromB
  simp only [List.any_eq_true]
  constructor
  · rintro ⟨o, ho, hr⟩
    have := h0 o ho
    rcases (reach_iff hV).1 hr with e | ⟨k, hk, hr'⟩
    · exact .inl (by rw [e, show ((o.toNat : Nat) : Int) = o by omega]; exact ho)
    · exact .inr ⟨k, hk, o, ho, hr'⟩
  · rintro (h | ⟨k, hk, o, ho, hr⟩)
    · exact ⟨i, h, by rw [Int.toNat_natCast]; exact reach_self gs i⟩
    · exact ⟨o, ho, reach_step hV hk hr⟩
theorem whichL_at {p : Nat → Bool} {n : Nat} {k : Int} (h0 : 0 ≤ k) (h : k < n) : (whichL n p).contains k = p k.toNat := by
  have := whichL_contains (n := n) (i := k.toNat) (p := p)
  rw [show ((k.toNat : Nat) : Int) = k by omega] at this
  rw [this, decide_eq_true (by omega), Bool.true_and]
/-- what the reference knows of all nodes when the nodes from i on are done -/
def metL (gs : List Nd) (of : List Int) (i : Nat) : List Bool := (List.range gs.length).map (metB gs of i)
@[simp] theorem metL_length (gs : List Nd) (of : List Int) (i : Nat) : (metL gs of i).length = gs.length := by simp [metL]
theorem metL_get {gs : List Nd} {of : List Int} {i j : Nat} (h : j < (metL gs of i).length) : (metL gs of i)[j] = metB gs of i j := by simp [metL]
theorem metL_start (gs : List Nd) (of : List Int) : List.replicate gs.length false = metL gs of gs.length := by
  refine List.ext_getElem (by simp) fun j h1 h2 => ?_
  rw [metL_get, met_start (by simpa using h1)]; simp
theorem metL_end {gs : List Nd} {of : List Int} {j : Nat} (h : j < (metL gs of 0).length) : (metL gs of 0)[j] = needB gs of j := by rw [metL_get, met_end]
/-- .. while node i is looked at, with its first t nodes done -/
def midL (gs : List Nd) (of : List Int) (i t : Nat) : List Bool := (List.range gs.length).map fun j => if j < i then metB gs of (i + 1) j || (needB gs of i && ((mayAt gs i).take t).contains (j : Int)) else needB gs of j
@[simp] theorem midL_length (gs : List Nd) (of : List Int) (i t : Nat) : (midL gs of i t).length = gs.length := by simp [midL]
theorem midL_get {gs : List Nd} {of : List Int} {i t j : Nat} (h : j < (midL gs of i t).length) : (midL gs of i t)[j] = if j < i then metB gs of (i + 1) j || (needB gs of i && ((mayAt gs i).take t).contains (j : Int)) else needB gs of j := by simp [midL]
theorem midL_self {gs : List Nd} {of : List Int} {i t : Nat} (h : i < (midL gs of i t).length) : (midL gs of i t)[i] = needB gs of i := by rw [midL_get, if_neg (by omega)]
theorem midL_zero {gs : List Nd} (hV : ValidG gs) {of : List Int} (h0 : ∀ o ∈ of, 0 ≤ o) {i : Nat} : (metL gs of (i + 1)).set i (metB gs of (i + 1) i || of.contains (i : Int)) = midL gs of i 0 := by
  rw [met_node hV h0]
  refine List.ext_getElem (by simp) fun j h1 h2 => ?_
  rw [List.getElem_set, midL_get, metL_get]
  by_cases e : i = j
  · subst e; simp
  · rw [if_neg e]
    by_cases h : j < i
    · rw [if_pos h]; simp
    · rw [if_neg h, met_past (by omega), met_high (by omega)]
theorem midL_step {gs : List Nd} (hV : ValidG gs) {of : List Int} {i t : Nat} (ht : t < (mayAt gs i).length) (hn : needB gs of i = true) : (midL gs of i t).set ((mayAt gs i)[t]).toNat true = midL gs of i (t + 1) := by
  have hk := mayAt_lt hV (List.getElem_mem ht)
  refine List.ext_getElem (by simp) fun j h1 h2 => ?_
  rw [List.getElem_set, midL_get, midL_get, List.take_succ_eq_append_getElem ht]
  generalize (mayAt gs i)[t] = x at *
  by_cases h : j < i
  · rw [if_pos h, if_pos h, hn]
    by_cases e : x.toNat = j
    · have : (j : Int) = x := by omega
      rw [if_pos e, this]; simp
    · have : ¬ (j : Int) = x := by omega
      rw [if_neg e]; simp [this]
  · rw [if_neg (by omega), if_neg h, if_neg h]
theorem midL_full {gs : List Nd} (hV : ValidG gs) {of : List Int} {i t : Nat} (h : (mayAt gs i).length ≤ t ∨ needB gs of i = false) : midL gs of i t = metL gs of i := by
  refine List.ext_getElem (by simp) fun j h1 h2 => ?_
  rw [midL_get, metL_get]
  by_cases hj : j < i
  · rw [if_pos hj, met_next hV hj]
    rcases h with h | h
    · rw [List.take_of_length_le h]
    · rw [h]; simp
  · rw [if_neg hj, met_high (by omega)]
/-- effects -/
def effB (gs : List Nd) (i : Nat) : Bool := decide (kindAt gs i = 2)
def effL (gs : List Nd) : List Int := whichL gs.length (effB gs)
theorem effL_nonneg (gs : List Nd) : ∀ o ∈ effL gs, 0 ≤ o := fun o ho => by
  obtain ⟨k, _, _, rfl⟩ := mem_whichL.1 ho
  omega
def watchB (gs : List Nd) (i : Nat) : Bool := (List.range gs.length).any fun k => reachB gs i k && effB gs k
theorem watch_need (gs : List Nd) (i : Nat) : needB gs (effL gs) i = watchB gs i := by
  rw [Bool.eq_iff_iff]
  unfold needB watchB effL
  simp only [List.any_eq_true]
  constructor
  · rintro ⟨o, ho, hr⟩
    obtain ⟨k, hk, he, rfl⟩ := mem_whichL.1 ho
    exact ⟨k, List.mem_range.2 hk, by rw [Int.toNat_natCast] at hr; simp [hr, he]⟩
  · rintro ⟨k, hk, hr⟩
    rw [Bool.and_eq_true] at hr
    exact ⟨k, mem_whichL.2 ⟨k, List.mem_range.1 hk, hr.2, rfl⟩, by rw [Int.toNat_natCast]; exact hr.1⟩
theorem watch_yes {gs : List Nd} {i k : Nat} (hk : k < gs.length) (hr : reachB gs i k = true) (he : kindAt gs k = 2) : watchB gs i = true := by
  unfold watchB
  rw [List.any_eq_true]
  exact ⟨k, List.mem_range.2 hk, by rw [hr]; simp [effB, he]⟩
theorem watch_no {gs : List Nd} {i : Nat} (h : ∀ k, k < gs.length → ¬ (reachB gs i k = true ∧ kindAt gs k = 2)) : watchB gs i = false := by
  unfold watchB
  rw [List.any_eq_false]
  intro k hk hr
  rw [Bool.and_eq_true] at hr
  exact h k (List.mem_range.1 hk) ⟨hr.1, of_decide_eq_true hr.2⟩
/-- the heights of the first nodes -/
def hgtR (gs : List Nd) (k : Nat) : List Int := (List.range k).map (hgt gs)
@[simp] theorem hgtR_length (gs : List Nd) (k : Nat) : (hgtR gs k).length = k := by simp [hgtR]
theorem hgtR_get {gs : List Nd} {k j : Nat} (h : j < (hgtR gs k).length) : (hgtR gs k)[j] = hgt gs j := by simp [hgtR]
theorem hgtR_succ (gs : List Nd) (k : Nat) : hgtR gs k ++ [hgt gs k] = hgtR gs (k + 1) := by simp [hgtR, List.range_succ]
theorem hgtR_up (gs : List Nd) (n : Nat) : upL n n (hgt gs) 0 = hgtR gs n := upL_full (Nat.le_refl n) _ _
/-- what the functions answer -/
noncomputable def hgtsL (gs : List Nd) : List Int := if validG gs = true then hgtR gs gs.length else []
noncomputable def onlyL (gs : List Nd) (n : Int) (p : Nat → Bool) : List Int := if (validG gs && inB n 0 ((gs.length : Int) - 1)) = true then whichL gs.length p else []
noncomputable def usersL (gs : List Nd) (n : Int) : List Int := onlyL gs n (usesB gs n)
noncomputable def reachOfL (gs : List Nd) (n : Int) : List Int := onlyL gs n (reachB gs n.toNat)
noncomputable def needOfL (gs : List Nd) (n : Int) : List Int := onlyL gs n fun i => reachB gs i n.toNat
noncomputable def watchedL (gs : List Nd) : List Int := if validG gs = true then whichL gs.length (watchB gs) else []
theorem hgtsL_no {gs : List Nd} (h : validG gs = false) : hgtsL gs = [] := by simp [hgtsL, h]
theorem hgtsL_yes {gs : List Nd} (h : validG gs = true) : hgtsL gs = hgtR gs gs.length := by simp [hgtsL, h]
theorem watchedL_no {gs : List Nd} (h : validG gs = false) : watchedL gs = [] := by simp [watchedL, h]
theorem watchedL_yes {gs : List Nd} (h : validG gs = true) : watchedL gs = whichL gs.length (watchB gs) := by simp [watchedL, h]
theorem onlyL_no {gs : List Nd} {n : Int} {p : Nat → Bool} (h : validG gs = false) : onlyL gs n p = [] := by simp [onlyL, h]
theorem onlyL_out {gs : List Nd} {n : Int} {p : Nat → Bool} (h : inB n 0 ((gs.length : Int) - 1) = false) : onlyL gs n p = [] := by simp [onlyL, h]
theorem onlyL_yes {gs : List Nd} {n : Int} {p : Nat → Bool} (h : validG gs = true) (h' : inB n 0 ((gs.length : Int) - 1) = true) : onlyL gs n p = whichL gs.length p := by simp [onlyL, h, h']
theorem onlyL_length (gs : List Nd) (n : Int) (p : Nat → Bool) : (onlyL gs n p).length ≤ gs.length := by
  unfold onlyL
  split
  · exact whichL_length _ _
  · simp
theorem onlyL_ten (gs : List Nd) (n : Int) (p : Nat → Bool) : (onlyL gs n p).length ≤ 10 := by
  unfold onlyL
  split
  · rename_i h
    rw [Bool.and_eq_true] at h
    have := whichL_length gs.length p
    have := (validG_iff.1 h.1).1
    omega
  · simp
theorem onlyL_asc (gs : List Nd) (n : Int) (p : Nat → Bool) : Asc (onlyL gs n p) := by
  unfold onlyL
  split
  · exact whichL_asc _ _
  · exact List.Pairwise.nil
theorem onlyL_congr {gs : List Nd} {n : Int} {p q : Nat → Bool} (h : validG gs = true → inB n 0 ((gs.length : Int) - 1) = true → ∀ k, k < gs.length → p k = q k) : onlyL gs n p = onlyL gs n q := by
  unfold onlyL
  split
  · rename_i h1
    rw [Bool.and_eq_true] at h1
    exact whichL_congr (h h1.1 h1.2)
  · rfl
theorem hgtsL_ten (gs : List Nd) : (hgtsL gs).length ≤ 10 := by
  unfold hgtsL
  split
  · rename_i h
    have := (validG_iff.1 h).1
    simpa using this
  · simp
theorem watchedL_ten (gs : List Nd) : (watchedL gs).length ≤ 10 := by
  unfold watchedL
  split
  · rename_i h
    have := (validG_iff.1 h).1
    have := whichL_length gs.length (watchB gs)
    omega
  · simp
theorem watchedL_asc (gs : List Nd) : Asc (watchedL gs) := by
  unfold watchedL
  split
  · exact whichL_asc _ _
  · exact List.Pairwise.nil
theorem usersL_ten (gs : List Nd) (n : Int) : (usersL gs n).length ≤ 10 := onlyL_ten _ _ _
theorem reachOfL_ten (gs : List Nd) (n : Int) : (reachOfL gs n).length ≤ 10 := onlyL_ten _ _ _
theorem needOfL_ten (gs : List Nd) (n : Int) : (needOfL gs n).length ≤ 10 := onlyL_ten _ _ _
/-- users lie behind -/
theorem users_low {gs : List Nd} (hV : ValidG gs) {n : Nat} : whichL (n + 1) (usesB gs n) = [] := by
  refine List.eq_nil_iff_forall_not_mem.2 fun x hx => ?_
  obtain ⟨k, hk, hu, _⟩ := mem_whichL.1 hx
  have := mayAt_lt hV (List.contains_iff_mem.1 hu)
  omega
theorem need_single {gs : List Nd} (hV : ValidG gs) {n : Nat} (hn : n < gs.length) : (whichL gs.length fun i => reachB gs i n).length = 1 ↔ mayAt gs n = [] := by
  have hnm : (n : Int) ∈ whichL gs.length fun i => reachB gs i n := mem_whichL.2 ⟨n, hn, reach_self gs n, rfl⟩
  have hnd := (whichL_asc gs.length fun i => reachB gs i n)
  constructor
  · intro h
    refine List.eq_nil_iff_forall_not_mem.2 fun k hk => ?_
    have h1 := mayAt_lt hV hk
    have hkm : k ∈ whichL gs.length fun i => reachB gs i n := mem_whichL.2 ⟨k.toNat, by omega, reach_step hV hk (reach_self gs _), by omega⟩
    obtain ⟨a, ha⟩ := List.length_eq_one_iff.1 h
    rw [ha, List.mem_singleton] at hkm hnm
    omega
  · intro h
    have hall : ∀ x ∈ (whichL gs.length fun i => reachB gs i n), x = (n : Int) := fun x hx => by
      obtain ⟨k, _, hr, rfl⟩ := mem_whichL.1 hx
      rcases (reach_iff hV).1 hr with e | ⟨k', hk', _⟩
      · rw [e]
      · rw [h] at hk'; simp at hk'
    generalize (whichL gs.length fun i => reachB gs i n) = l at *
    match l with
    | [] => simp at hnm
    | [a] => rfl
    | a :: b :: l =>
      have e1 := hall a (by simp)
      have e2 := hall b (by simp)
      have := List.rel_of_pairwise_cons hnd (show b ∈ b :: l by simp)
      omega
end SG

/- Plain data: what the laws of heights, users and ways ask. No program here. -/
namespace SG
set_option linter.unusedSimpArgs false
set_option linter.unusedVariables false
theorem inB_node {gs : List Nd} {i : Nat} (h : i < gs.length) : inB (i : Int) 0 ((gs.length : Int) - 1) = true := inB_iff.2 ⟨by omega, by omega⟩
theorem onlyL_some {gs : List Nd} {n : Int} {p : Nat → Bool} (h : onlyL gs n p ≠ []) : validG gs = true ∧ 0 ≤ n ∧ n < gs.length := by
  unfold onlyL at h
  split at h
  · rename_i h1
    rw [Bool.and_eq_true] at h1
    have := inB_iff.1 h1.2
    exact ⟨h1.1, this.1, by omega⟩
  · exact absurd rfl h
theorem onlyL_mem {gs : List Nd} {n x : Int} {p : Nat → Bool} (h : validG gs = true) (h0 : 0 ≤ n) (h1 : n < gs.length) : x ∈ onlyL gs n p ↔ ∃ k, k < gs.length ∧ p k = true ∧ (k : Int) = x := by
  rw [onlyL_yes h (inB_iff.2 ⟨h0, by omega⟩), mem_whichL]
theorem onlyL_low {gs : List Nd} {n x : Int} {p : Nat → Bool} (hx : x ∈ onlyL gs n p) : 0 ≤ x ∧ x < gs.length ∧ p x.toNat = true := by
  have hs := onlyL_some (List.ne_nil_of_mem hx)
  obtain ⟨k, hk, hp, rfl⟩ := (onlyL_mem hs.1 hs.2.1 hs.2.2).1 hx
  exact ⟨by omega, by omega, by rw [Int.toNat_natCast]; exact hp⟩
theorem onlyL_contains {gs : List Nd} {n : Int} {p : Nat → Bool} (h : validG gs = true) (h0 : 0 ≤ n) (h1 : n < gs.length) {i : Nat} (hi : i < gs.length) : (onlyL gs n p).contains (i : Int) = p i := by
  rw [onlyL_yes h (inB_iff.2 ⟨h0, by omega⟩), whichL_contains, decide_eq_true hi, Bool.true_and]
theorem users_may {gs : List Nd} {n : Int} (h : validG gs = true) (h0 : 0 ≤ n) (h1 : n < gs.length) {i : Nat} (hi : i < gs.length) : (usersL gs n).contains (i : Int) = (mayV gs[i].parts).contains n := by
  rw [usersL, onlyL_contains h h0 h1 hi, validG_may (validG_iff.1 h) hi]; rfl
theorem users_effect {gs : List Nd} {n : Int} (h : validG gs = true) (hk : kindAt gs n = 2) : usersL gs n = [] := by
  refine List.eq_nil_iff_forall_not_mem.2 fun x hx => ?_
  have := (onlyL_low hx).2.2
  exact (mayAt_lt (validG_iff.1 h) (List.contains_iff_mem.1 this)).2.2 hk
theorem users_high {gs : List Nd} {n : Nat} {x : Int} (hx : x ∈ usersL gs n) : validG gs = true ∧ x < gs.length ∧ 0 ≤ x ∧ hgt gs n < hgt gs x.toNat := by
  have hs := onlyL_some (List.ne_nil_of_mem hx)
  have hl := onlyL_low hx
  have := hgt_gt (validG_iff.1 hs.1) (List.contains_iff_mem.1 hl.2.2)
  rw [Int.toNat_natCast] at this
  exact ⟨hs.1, hl.2.1, hl.1, this⟩
theorem need_height {gs : List Nd} (h : validG gs = true) {n : Nat} (hn : n < gs.length) : (needOfL gs n).length = 1 ↔ hgt gs n = 0 := by
  rw [hgt_zero (validG_iff.1 h), needOfL, onlyL_yes h (inB_node hn), Int.toNat_natCast]
  exact need_single (validG_iff.1 h) hn
theorem users_reach {gs : List Nd} {n : Int} {i : Nat} (h : validG gs = true) (h0 : 0 ≤ n) (h1 : n < gs.length) (hi : i < gs.length) (hr : reachB gs n.toNat i = true) : ∀ x ∈ usersL gs i, x ∈ reachOfL gs n := fun x hx => by
  have hl := onlyL_low hx
  refine (onlyL_mem h h0 h1).2 ⟨x.toNat, by omega, ?_, by omega⟩
  exact reach_step (validG_iff.1 h) (List.contains_iff_mem.1 hl.2.2) (by rw [Int.toNat_natCast]; exact hr)
theorem asc_head {xs : List Int} {n : Int} (ha : Asc xs) (hm : n ∈ xs) (hle : ∀ x ∈ xs, n ≤ x) (h : 0 < xs.length) : xs[0] = n := by
  obtain ⟨i, hi, e⟩ := List.mem_iff_getElem.1 hm
  have h0 := hle _ (List.getElem_mem h)
  by_cases hz : i = 0
  · subst hz; exact e
  · have := List.pairwise_iff_getElem.1 ha 0 i h hi (by omega)
    omega
theorem asc_end {xs : List Int} {n : Int} (ha : Asc xs) (hm : n ∈ xs) (hle : ∀ x ∈ xs, x ≤ n) (h : xs.length - 1 < xs.length) : xs[xs.length - 1] = n := by
  obtain ⟨i, hi, e⟩ := List.mem_iff_getElem.1 hm
  have h0 := hle _ (List.getElem_mem h)
  by_cases hz : i = xs.length - 1
  · subst hz; exact e
  · have := List.pairwise_iff_getElem.1 ha i (xs.length - 1) hi h (by omega)
    omega
theorem reach_head {gs : List Nd} {n : Int} (h : 0 < (reachOfL gs n).length) : (reachOfL gs n)[0] = n := by
  have hs := onlyL_some (List.ne_nil_of_length_pos h)
  refine asc_head (onlyL_asc _ _ _) ((onlyL_mem hs.1 hs.2.1 hs.2.2).2 ⟨n.toNat, by omega, reach_self _ _, by omega⟩) (fun x hx => ?_) h
  have hl := onlyL_low hx
  have := reach_le (validG_iff.1 hs.1) hl.2.2
  omega
theorem need_last {gs : List Nd} {n : Int} (h : (needOfL gs n).length - 1 < (needOfL gs n).length) : (needOfL gs n)[(needOfL gs n).length - 1] = n := by
  have hne : needOfL gs n ≠ [] := List.ne_nil_of_length_pos (by omega)
  have hs := onlyL_some hne
  have hm : n ∈ needOfL gs n := (onlyL_mem hs.1 hs.2.1 hs.2.2).2 ⟨n.toNat, by omega, reach_self gs _, by omega⟩
  have ha : Asc (needOfL gs n) := onlyL_asc _ _ _
  refine asc_end ha hm (fun x hx => ?_) h
  have hl := onlyL_low hx
  have := reach_le (validG_iff.1 hs.1) hl.2.2
  omega
theorem need_last_at {gs : List Nd} {n : Int} {k : Nat} (hk : k + 1 = (needOfL gs n).length) (h : k < (needOfL gs n).length) : (needOfL gs n)[k] = n := by
  obtain rfl : k = (needOfL gs n).length - 1 := by omega
  exact need_last h
/-- node n, and what its first t nodes need -/
noncomputable def allL (gs : List Nd) (n : Int) (ks : List Int) (t : Nat) : List Int := n :: (ks.take t).flatMap (needOfL gs)
theorem allL_zero (gs : List Nd) (n : Int) (ks : List Int) : allL gs n ks 0 = [n] := by simp [allL]
theorem allL_succ (gs : List Nd) (n : Int) (ks : List Int) {t : Nat} (h : t < ks.length) : allL gs n ks t ++ needOfL gs ks[t] = allL gs n ks (t + 1) := by
  unfold allL
  rw [List.take_succ_eq_append_getElem h, List.flatMap_append]; simp
theorem allL_length (gs : List Nd) (n : Int) (ks : List Int) (t : Nat) : (allL gs n ks t).length ≤ 1 + 10 * t := by
  induction t with
  | zero => simp [allL]
  | succ t ih =>
    by_cases h : t < ks.length
    · rw [← allL_succ gs n ks h, List.length_append]
      have := needOfL_ten gs ks[t]
      omega
    · have : allL gs n ks (t + 1) = allL gs n ks t := by unfold allL; rw [List.take_of_length_le (by omega), List.take_of_length_le (by omega)]
      rw [this]; omega
theorem all_need {gs : List Nd} {n : Int} (h : validG gs = true) (h0 : 0 ≤ n) (h1 : n < gs.length) : ∀ x, x ∈ allL gs n (mayAt gs n.toNat) (mayAt gs n.toNat).length ↔ x ∈ needOfL gs n := by
  have hV := validG_iff.1 h
  intro x
  unfold allL
  rw [List.take_length, List.mem_cons, List.mem_flatMap]
  constructor
  · rintro (rfl | ⟨k, hk, hx⟩)
    · exact (onlyL_mem h h0 h1).2 ⟨x.toNat, by omega, reach_self _ _, by omega⟩
    · have hl := onlyL_low hx
      exact (onlyL_mem h h0 h1).2 ⟨x.toNat, by omega, reach_step hV hk hl.2.2, by omega⟩
  · intro hx
    have hl := onlyL_low hx
    rcases (reach_iff hV).1 hl.2.2 with e | ⟨k, hk, hr⟩
    · exact .inl (by omega)
    · have hk2 := mayAt_lt hV hk
      exact .inr ⟨k, hk, (onlyL_mem h hk2.1 (by omega)).2 ⟨x.toNat, by omega, hr, by omega⟩⟩
theorem watch_reach {gs : List Nd} (h : validG gs = true) {i : Nat} (hi : i < gs.length) : (watchedL gs).contains (i : Int) = (reachOfL gs i).any fun k => decide (kindAt gs k = 2) := by
  rw [watchedL_yes h, whichL_contains, decide_eq_true hi, Bool.true_and, Bool.eq_iff_iff]
  unfold watchB
  simp only [List.any_eq_true, Bool.and_eq_true, decide_eq_true_eq]
  constructor
  · rintro ⟨k, hk, hr, he⟩
    have hk := List.mem_range.1 hk
    exact ⟨k, (onlyL_mem h (by omega) (by omega)).2 ⟨k, hk, by rw [Int.toNat_natCast]; exact hr, rfl⟩, by simpa [effB] using he⟩
  · rintro ⟨x, hx, he⟩
    have hl := onlyL_low hx
    refine ⟨x.toNat, List.mem_range.2 (by omega), by rw [Int.toNat_natCast] at hl; exact hl.2.2, ?_⟩
    rw [effB, show ((x.toNat : Nat) : Int) = x by omega]
    exact decide_eq_true he
end SG

/- Plain data: what meanings, set cells and changes answer. No program here. -/
namespace SG
set_option linter.unusedSimpArgs false
set_option linter.unusedVariables false
theorem upL_val {n i k : Nat} {f : Nat → Int} (hk : k < i) (hi : i ≤ n) : valF (upL n i f 0) (k : Int) = f k := by
  show at0 (upL n i f 0) (Int.toNat _) = f k
  rw [Int.toNat_natCast, at0, List.getD_eq_getElem?_getD, List.getElem?_eq_getElem (by simp; omega), Option.getD_some, upL_get, if_pos hk]
theorem meanUp_cell {gs : List Nd} {xs : List Int} {i : Nat} (hi : i < gs.length) (hk : gs[i].kind = 0) : meanUp gs xs i ++ [at0 xs i] = meanUp gs xs (i + 1) := by
  show _ = meanUp gs xs i ++ [match gs[i]? with
    | none => 0
    | some n => if n.kind = 0 then at0 xs i else valL n.parts (valF (meanUp gs xs i))]
  rw [List.getElem?_eq_getElem hi]
  simp [hk]
theorem meanUp_der {gs : List Nd} {xs : List Int} {i : Nat} (hi : i < gs.length) (hk : gs[i].kind ≠ 0) : meanUp gs xs i ++ [valL gs[i].parts (valF (meanUp gs xs i))] = meanUp gs xs (i + 1) := by
  show _ = meanUp gs xs i ++ [match gs[i]? with
    | none => 0
    | some n => if n.kind = 0 then at0 xs i else valL n.parts (valF (meanUp gs xs i))]
  rw [List.getElem?_eq_getElem hi]
  simp [hk]
theorem meanL_map (gs : List Nd) (xs : List Int) : (List.range gs.length).map (mean gs xs) = meanL gs xs := by
  refine List.ext_getElem (by simp) fun j h1 h2 => ?_
  rw [meanL_get]; simp
def depsL (gs : List Nd) (xs : List Int) : List (List Int) := (List.range gs.length).map (depAt gs xs)
@[simp] theorem depsL_length (gs : List Nd) (xs : List Int) : (depsL gs xs).length = gs.length := by simp [depsL]
theorem depsL_get {gs : List Nd} {xs : List Int} {i : Nat} (h : i < (depsL gs xs).length) : (depsL gs xs)[i] = depAt gs xs i := by simp [depsL]
/-- the graph is valid, and so are the cells -/
noncomputable def cellsV (gs : List Nd) (xs : List Int) : Bool := validG gs && cellsOkB gs xs
theorem cellsV_iff {gs : List Nd} {xs : List Int} : cellsV gs xs = true ↔ ValidG gs ∧ CellsOk gs xs := by
  rw [cellsV, Bool.and_eq_true, validG_iff, cellsOkB_iff]
theorem cellsV_len {gs : List Nd} {xs : List Int} (h : cellsV gs xs = true) : xs.length = gs.length ∧ gs.length ≤ 10 := by
  have := cellsV_iff.1 h
  exact ⟨this.2.1, this.1.1⟩
noncomputable def meanOfL (gs : List Nd) (xs : List Int) : List Int := if cellsV gs xs = true then meanL gs xs else []
theorem meanOfL_no {gs : List Nd} {xs : List Int} (h : cellsV gs xs = false) : meanOfL gs xs = [] := by simp [meanOfL, h]
theorem meanOfL_yes {gs : List Nd} {xs : List Int} (h : cellsV gs xs = true) : meanOfL gs xs = meanL gs xs := by simp [meanOfL, h]
theorem meanOfL_ten (gs : List Nd) (xs : List Int) : (meanOfL gs xs).length ≤ 10 := by
  unfold meanOfL
  split
  · rename_i h
    rw [meanL_length]; exact (cellsV_len h).2
  · simp
noncomputable def depsOfL (gs : List Nd) (xs : List Int) : List (List Int) := if cellsV gs xs = true then depsL gs xs else []
theorem depsOfL_no {gs : List Nd} {xs : List Int} (h : cellsV gs xs = false) : depsOfL gs xs = [] := by simp [depsOfL, h]
theorem depsOfL_yes {gs : List Nd} {xs : List Int} (h : cellsV gs xs = true) : depsOfL gs xs = depsL gs xs := by simp [depsOfL, h]
/-- what changes -/
noncomputable def diffOfL (gs : List Nd) (xs ys : List Int) : List Int := if (cellsV gs xs && cellsV gs ys) = true then diffL gs xs ys else []
theorem diffOfL_no {gs : List Nd} {xs ys : List Int} (h : cellsV gs xs = false ∨ cellsV gs ys = false) : diffOfL gs xs ys = [] := by
  rw [diffOfL, if_neg]
  rw [Bool.and_eq_true]
  rintro ⟨h1, h2⟩
  rcases h with h | h
  · rw [h1] at h; cases h
  · rw [h2] at h; cases h
theorem diffOfL_yes {gs : List Nd} {xs ys : List Int} (h : cellsV gs xs = true) (h' : cellsV gs ys = true) : diffOfL gs xs ys = diffL gs xs ys := by simp [diffOfL, h, h']
theorem diffL_length (gs : List Nd) (xs ys : List Int) : (diffL gs xs ys).length ≤ gs.length := whichL_length _ _
theorem diffL_asc (gs : List Nd) (xs ys : List Int) : Asc (diffL gs xs ys) := whichL_asc _ _
theorem diffOfL_ten (gs : List Nd) (xs ys : List Int) : (diffOfL gs xs ys).length ≤ 10 := by
  unfold diffOfL
  split
  · rename_i h
    rw [Bool.and_eq_true] at h
    have := diffL_length gs xs ys
    have := (cellsV_len h.1).2
    omega
  · simp
theorem diffOfL_asc (gs : List Nd) (xs ys : List Int) : Asc (diffOfL gs xs ys) := by
  unfold diffOfL
  split
  · exact diffL_asc _ _ _
  · exact List.Pairwise.nil
/-- set cells -/
noncomputable def setOk (gs : List Nd) (xs : List Int) (n v : Int) : Bool := cellsV gs xs && cellB gs n && inB v 0 999
noncomputable def setL (gs : List Nd) (xs : List Int) (n v : Int) : List Int := if setOk gs xs n v = true then xs.set n.toNat v else []
theorem setL_no {gs : List Nd} {xs : List Int} {n v : Int} (h : setOk gs xs n v = false) : setL gs xs n v = [] := by simp [setL, h]
theorem setL_yes {gs : List Nd} {xs : List Int} {n v : Int} (h : setOk gs xs n v = true) : setL gs xs n v = xs.set n.toNat v := by simp [setL, h]
theorem cellB_iff {gs : List Nd} {n : Int} : cellB gs n = true ↔ (0 ≤ n ∧ n < gs.length) ∧ kindAt gs n = 0 := by
  rw [cellB, Bool.and_eq_true, inB_iff, decide_eq_true_eq]
  constructor
  · rintro ⟨h1, h2⟩; exact ⟨⟨h1.1, by omega⟩, h2⟩
  · rintro ⟨h1, h2⟩; exact ⟨⟨h1.1, by omega⟩, h2⟩
theorem setOk_iff {gs : List Nd} {xs : List Int} {n v : Int} : setOk gs xs n v = true ↔ cellsV gs xs = true ∧ cellB gs n = true ∧ (0 ≤ v ∧ v ≤ 999) := by
  rw [setOk, Bool.and_eq_true, Bool.and_eq_true, inB_iff]
  exact ⟨fun h => ⟨h.1.1, h.1.2, h.2⟩, fun h => ⟨⟨h.1, h.2.1⟩, h.2.2⟩⟩
theorem set_valid {gs : List Nd} {xs : List Int} {n v : Int} (h : setOk gs xs n v = true) : cellsV gs (xs.set n.toNat v) = true := by
  obtain ⟨h1, h2, h3⟩ := setOk_iff.1 h
  obtain ⟨hV, hl, hc⟩ := cellsV_iff.1 h1
  obtain ⟨⟨n0, n1⟩, hk⟩ := cellB_iff.1 h2
  refine cellsV_iff.2 ⟨hV, by rw [List.length_set]; exact hl, fun i hi hg => ?_⟩
  rw [List.length_set] at hi
  rw [List.getElem_set]
  split
  · rename_i e
    refine ⟨h3, fun hne => ?_⟩
    subst e
    rw [show n = ((n.toNat : Nat) : Int) by omega, kindAt_eq hg] at hk
    exact absurd hk hne
  · exact hc i hi hg
theorem set_back {gs : List Nd} {xs : List Int} {n v : Int} (h : setOk gs xs n v = true) (hn : n.toNat < xs.length) : setOk gs (xs.set n.toNat v) n xs[n.toNat] = true ∧ setL gs (xs.set n.toNat v) n xs[n.toNat] = xs := by
  obtain ⟨h1, h2, h3⟩ := setOk_iff.1 h
  have hc := (cellsV_iff.1 h1).2
  have hx := (hc.2 n.toNat hn (by rw [← hc.1]; exact hn)).1
  have hok : setOk gs (xs.set n.toNat v) n xs[n.toNat] = true := setOk_iff.2 ⟨set_valid h, h2, hx⟩
  refine ⟨hok, ?_⟩
  rw [setL_yes hok, List.set_set, List.set_getElem_self]
theorem setL_ten (gs : List Nd) (xs : List Int) (n v : Int) : (setL gs xs n v).length ≤ 10 := by
  unfold setL
  split
  · rename_i h
    have := cellsV_len (setOk_iff.1 h).1
    rw [List.length_set]; omega
  · simp
end SG

/- Plain data: a graph with one more node. No program here. -/
namespace SG
set_option linter.unusedSimpArgs false
set_option linter.unusedVariables false
noncomputable def addB (gs : List Nd) (n : Nd) : Bool := validG gs && validG (gs ++ [n])
noncomputable def addL (gs : List Nd) (n : Nd) : List Nd := if addB gs n = true then gs ++ [n] else []
theorem addB_no1 {gs : List Nd} {n : Nd} (h : validG gs = false) : addB gs n = false := by simp [addB, h]
theorem addB_no2 {gs : List Nd} {n : Nd} (h : validG (gs ++ [n]) = false) : addB gs n = false := by simp [addB, h]
theorem addB_iff {gs : List Nd} {n : Nd} : addB gs n = true ↔ validG gs = true ∧ validG (gs ++ [n]) = true := by rw [addB, Bool.and_eq_true]
theorem addL_no {gs : List Nd} {n : Nd} (h : addB gs n = false) : addL gs n = [] := by simp [addL, h]
theorem addL_yes {gs : List Nd} {n : Nd} (h : addB gs n = true) : addL gs n = gs ++ [n] := by simp [addL, h]
theorem meanUp_append {gs : List Nd} {n : Nd} {xs : List Int} {z : Int} (hx : xs.length = gs.length) : ∀ (k : Nat), k ≤ gs.length → meanUp (gs ++ [n]) (xs ++ [z]) k = meanUp gs xs k := by
  intro k
  induction k with
  | zero => intro _; rfl
  | succ k ih =>
    intro hk
    have e := ih (by omega)
    show meanUp (gs ++ [n]) (xs ++ [z]) k ++ [match (gs ++ [n])[k]? with
      | none => 0
      | some m => if m.kind = 0 then at0 (xs ++ [z]) k else valL m.parts (valF (meanUp (gs ++ [n]) (xs ++ [z]) k))] = meanUp gs xs k ++ [match gs[k]? with
      | none => 0
      | some m => if m.kind = 0 then at0 xs k else valL m.parts (valF (meanUp gs xs k))]
    rw [e, List.getElem?_append_left (by omega), at0_append_left (by omega)]
theorem meanL_append {gs : List Nd} {n : Nd} {xs : List Int} {z : Int} (hx : xs.length = gs.length) : (meanL (gs ++ [n]) (xs ++ [z])).take gs.length = meanL gs xs := by
  unfold meanL
  rw [List.length_append]
  show (meanUp (gs ++ [n]) (xs ++ [z]) (gs.length + 1)).take gs.length = _
  rw [← meanUp_append (n := n) (z := z) hx gs.length (Nat.le_refl _)]
  show (meanUp (gs ++ [n]) (xs ++ [z]) gs.length ++ [_]).take gs.length = _
  exact List.take_left' (by simp)
theorem zero_cells {gs : List Nd} (h : validG gs = true) {n : Nat} (hn : n = gs.length) : cellsV gs (List.replicate n 0) = true := cellsV_iff.2 ⟨validG_iff.1 h, by simp [hn], fun i h1 h2 => by simp⟩
end SG
