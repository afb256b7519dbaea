/- Plain data: ways in graphs; which nodes; heights. No program here. -/
import Derived.Test.YtpkooglnapjcnaaPlain2
namespace SG
set_option linter.unusedSimpArgs false
set_option linter.unusedVariables false
def mayAt (gs : List Nd) (i : Nat) : List Int := match gs[i]? with
  | none => []
  | some n => mayL n.parts
theorem mayAt_eq {gs : List Nd} {i : Nat} (h : i < gs.length) : mayAt gs i = mayL gs[i].parts := by simp [mayAt, h]
theorem mayAt_in {gs : List Nd} {i : Nat} {k : Int} (h : k ∈ mayAt gs i) : i < gs.length := by
  refine Classical.byContradiction fun hn => ?_
  simp [mayAt, List.getElem?_eq_none (show gs.length ≤ i by omega)] at h
theorem mayL_nil : mayL [] = [] := by
  refine List.eq_nil_iff_forall_not_mem.2 fun n hn => ?_
  obtain ⟨_, p, hp, _⟩ := mem_mayL.1 hn
  simp at hp
theorem mayAt_lt {gs : List Nd} (hV : ValidG gs) {i : Nat} {k : Int} (h : k ∈ mayAt gs i) : 0 ≤ k ∧ k < i ∧ kindAt gs k ≠ 2 := by
  have hi := mayAt_in h
  rw [mayAt_eq hi] at h
  have h0 := (mem_mayL.1 h).1
  rcases hV.2 i hi with ⟨_, e⟩ | ⟨_, _, hr⟩
  · rw [e, mayL_nil] at h; simp at h
  · have := hr k h; exact ⟨h0.1, this.1, this.2⟩
theorem mayAt_asc (gs : List Nd) (i : Nat) : Asc (mayAt gs i) := by
  unfold mayAt
  split
  · exact List.Pairwise.nil
  · exact asc_mayL _
theorem mayAt_length (gs : List Nd) (i : Nat) : (mayAt gs i).length ≤ 10 := by
  unfold mayAt
  split
  · simp
  · exact mayL_length _
/-- a way leads from n to i -/
def reachB (gs : List Nd) (n i : Nat) : Bool := if i = n then true else (mayAt gs i).any fun k => if h : k.toNat < i then reachB gs n k.toNat else false
termination_by i
decreasing_by exact h
theorem reach_iff {gs : List Nd} (hV : ValidG gs) {n i : Nat} : reachB gs n i = true ↔ i = n ∨ ∃ k ∈ mayAt gs i, reachB gs n k.toNat = true := by
  rw [reachB]
  split
  · rename_i h; simp [h]
  · rename_i h
    simp only [h, false_or, List.any_eq_true]
    constructor
    · rintro ⟨k, hk, hr⟩
      split at hr
      · exact ⟨k, hk, hr⟩
      · cases hr
    · rintro ⟨k, hk, hr⟩
      have := mayAt_lt hV hk
      exact ⟨k, hk, by rw [dif_pos (by omega)]; exact hr⟩
theorem reach_self (gs : List Nd) (n : Nat) : reachB gs n n = true := by rw [reachB]; simp
theorem reach_step {gs : List Nd} (hV : ValidG gs) {n i : Nat} {k : Int} (hk : k ∈ mayAt gs i) (h : reachB gs n k.toNat = true) : reachB gs n i = true := (reach_iff hV).2 (.inr ⟨k, hk, h⟩)
theorem reach_le {gs : List Nd} (hV : ValidG gs) {n : Nat} : ∀ {i : Nat}, reachB gs n i = true → n ≤ i := by
  intro i
  induction i using Nat.strongRecOn with
  | _ i ih =>
    intro h
    rcases (reach_iff hV).1 h with rfl | ⟨k, hk, hr⟩
    · exact Nat.le_refl _
    · have h1 := mayAt_lt hV hk
      have := ih k.toNat (by omega) hr
      omega
theorem reach_trans {gs : List Nd} (hV : ValidG gs) {n j : Nat} (h0 : reachB gs n j = true) : ∀ {i : Nat}, reachB gs j i = true → reachB gs n i = true := by
  intro i
  induction i using Nat.strongRecOn with
  | _ i ih =>
    intro h
    rcases (reach_iff hV).1 h with rfl | ⟨k, hk, hr⟩
    · exact h0
    · have h1 := mayAt_lt hV hk
      exact reach_step hV hk (ih k.toNat (by omega) hr)
theorem reach_first {gs : List Nd} (hV : ValidG gs) {n : Nat} : ∀ {i : Nat}, reachB gs n i = true ↔ i = n ∨ ∃ j, (n : Int) ∈ mayAt gs j ∧ reachB gs j i = true := by
  intro i
  induction i using Nat.strongRecOn with
  | _ i ih =>
    constructor
    · intro h
      rcases (reach_iff hV).1 h with rfl | ⟨k, hk, hr⟩
      · exact .inl rfl
      · have h1 := mayAt_lt hV hk
        rcases (ih k.toNat (by omega)).1 hr with e | ⟨j, hj, hr'⟩
        · exact .inr ⟨i, by rw [← e, show ((k.toNat : Nat) : Int) = k by omega]; exact hk, reach_self gs i⟩
        · exact .inr ⟨j, hj, reach_step hV hk hr'⟩
    · rintro (rfl | ⟨j, hj, hr⟩)
      · exact reach_self gs i
      · exact reach_trans hV (reach_step hV hj (by rw [Int.toNat_natCast]; exact reach_self gs n)) hr
/-- the numbers below n for which something holds -/
def whichL (n : Nat) (p : Nat → Bool) : List Int := ((List.range n).filter p).map fun (k : Nat) => (k : Int)
theorem whichL_zero (p : Nat → Bool) : whichL 0 p = [] := rfl
theorem whichL_yes {n : Nat} {p : Nat → Bool} (h : p n = true) : whichL n p ++ [(n : Int)] = whichL (n + 1) p := by simp [whichL, List.range_succ, h]
theorem whichL_no {n : Nat} {p : Nat → Bool} (h : p n = false) : whichL n p = whichL (n + 1) p := by simp [whichL, List.range_succ, h]
theorem mem_whichL {n : Nat} {p : Nat → Bool} {x : Int} : x ∈ whichL n p ↔ ∃ k, k < n ∧ p k = true ∧ (k : Int) = x := by
  simp [whichL, and_assoc]
theorem whichL_contains {n i : Nat} {p : Nat → Bool} : (whichL n p).contains (i : Int) = (decide (i < n) && p i) := by
  rw [Bool.eq_iff_iff, List.contains_iff_mem, mem_whichL]
  simp only [Bool.and_eq_true, decide_eq_true_eq]
  constructor
  · rintro ⟨k, hk, hp, e⟩
    obtain rfl : k = i := by omega
    exact ⟨hk, hp⟩
  · rintro ⟨h1, h2⟩
    exact ⟨i, h1, h2, rfl⟩
theorem whichL_length (n : Nat) (p : Nat → Bool) : (whichL n p).length ≤ n := by
  unfold whichL
  rw [List.length_map]
  have := List.length_filter_le p (List.range n)
  simpa using this
theorem whichL_asc (n : Nat) (p : Nat → Bool) : Asc (whichL n p) := by
  unfold whichL Asc
  refine List.Pairwise.map _ (fun a b (h : a < b) => by omega) ?_
  exact List.Pairwise.filter _ List.pairwise_lt_range
theorem whichL_congr {n : Nat} {p q : Nat → Bool} (h : ∀ k, k < n → p k = q k) : whichL n p = whichL n q := by
  unfold whichL
  congr 1
  refine List.filter_congr fun k hk => h k (by simpa using hk)
def usesB (gs : List Nd) (n : Int) (i : Nat) : Bool := (mayAt gs i).contains n
/-- heights -/
def maxes (f : Int → Int) (ks : List Int) (h : Int) : Int := ks.foldl (fun h k => if h < f k then f k else h) h
theorem maxes_take {f : Int → Int} {ks : List Int} {i : Nat} (hi : i < ks.length) (h : Int) : maxes f (ks.take (i + 1)) h = (if maxes f (ks.take i) h < f ks[i] then f ks[i] else maxes f (ks.take i) h) := by
  unfold maxes
  rw [List.take_succ_eq_append_getElem hi, List.foldl_append]; rfl
theorem maxes_ge {f : Int → Int} : ∀ {ks : List Int} {h : Int}, h ≤ maxes f ks h ∧ ∀ k ∈ ks, f k ≤ maxes f ks h := by
  intro ks
  induction ks with
  | nil => intro h; exact ⟨Int.le_refl _, fun k hk => by simp at hk⟩
  | cons a ks ih =>
    intro h
    have e : maxes f (a :: ks) h = maxes f ks (if h < f a then f a else h) := rfl
    have := @ih (if h < f a then f a else h)
    rw [e]
    refine ⟨?_, fun k hk => ?_⟩
    · have h1 := this.1; split at h1 <;> split <;> omega
    · rcases List.mem_cons.1 hk with rfl | hk
      · have h1 := this.1; split at h1 <;> split <;> omega
      · exact this.2 k hk
theorem maxes_one {f : Int → Int} : ∀ {ks : List Int} {h : Int}, maxes f ks h = h ∨ ∃ k ∈ ks, maxes f ks h = f k := by
  intro ks
  induction ks with
  | nil => intro h; exact .inl rfl
  | cons a ks ih =>
    intro h
    have e : maxes f (a :: ks) h = maxes f ks (if h < f a then f a else h) := rfl
    rw [e]
    rcases @ih (if h < f a then f a else h) with h1 | ⟨k, hk, h1⟩
    · rw [h1]
      split
      · exact .inr ⟨a, List.mem_cons_self .., rfl⟩
      · exact .inl rfl
    · exact .inr ⟨k, List.mem_cons_of_mem _ hk, h1⟩
def hgtUp (gs : List Nd) : Nat → List Int
  | 0 => []
  | k + 1 => hgtUp gs k ++ [maxes (fun j => at0 (hgtUp gs k) j.toNat + 1) (mayAt gs k) 0]
@[simp] theorem hgtUp_length (gs : List Nd) (k : Nat) : (hgtUp gs k).length = k := by
  induction k with
  | zero => rfl
  | succ k ih => simp [hgtUp, ih]
theorem at0_append_left {xs ys : List Int} {j : Nat} (h : j < xs.length) : at0 (xs ++ ys) j = at0 xs j := by
  simp [at0, List.getD_eq_getElem?_getD, List.getElem?_append_left h]
theorem at0_append_last {xs : List Int} {y : Int} : at0 (xs ++ [y]) xs.length = y := by
  simp [at0, List.getD_eq_getElem?_getD]
theorem hgtUp_at {gs : List Nd} {j : Nat} : ∀ {k : Nat}, j < k → at0 (hgtUp gs k) j = at0 (hgtUp gs (j + 1)) j := by
  intro k
  induction k with
  | zero => intro h; omega
  | succ k ih =>
    intro h
    by_cases e : j = k
    · subst e; rfl
    · show at0 (hgtUp gs k ++ _) j = _
      rw [at0_append_left (by simp; omega)]
      exact ih (by omega)
def hgt (gs : List Nd) (i : Nat) : Int := at0 (hgtUp gs (i + 1)) i
theorem hgt_eq {gs : List Nd} (hV : ValidG gs) (i : Nat) : hgt gs i = maxes (fun j => hgt gs j.toNat + 1) (mayAt gs i) 0 := by
  have e : hgt gs i = maxes (fun j => at0 (hgtUp gs i) j.toNat + 1) (mayAt gs i) 0 := by
    have := at0_append_last (xs := hgtUp gs i) (y := maxes (fun j => at0 (hgtUp gs i) j.toNat + 1) (mayAt gs i) 0)
    rw [hgtUp_length] at this
    exact this
  rw [e]
  have key : ∀ (ks : List Int) (h : Int), (∀ k ∈ ks, 0 ≤ k ∧ k < i) → maxes (fun j => at0 (hgtUp gs i) j.toNat + 1) ks h = maxes (fun j => hgt gs j.toNat + 1) ks h := by
    intro ks
    induction ks with
    | nil => intro h _; rfl
    | cons a ks ih =>
      intro h hk
      have ha := hk a (List.mem_cons_self ..)
      have e1 : at0 (hgtUp gs i) a.toNat = hgt gs a.toNat := hgtUp_at (by omega)
      show maxes _ ks _ = maxes _ ks _
      simp only [e1]
      exact ih _ (fun k h' => hk k (List.mem_cons_of_mem _ h'))
  exact key _ _ fun k hk => by have := mayAt_lt hV hk; omega
theorem hgt_nonneg (gs : List Nd) (hV : ValidG gs) (i : Nat) : 0 ≤ hgt gs i := by rw [hgt_eq hV]; exact maxes_ge.1
theorem hgt_gt {gs : List Nd} (hV : ValidG gs) {i : Nat} {k : Int} (h : k ∈ mayAt gs i) : hgt gs k.toNat < hgt gs i := by
  rw [hgt_eq hV i]
  have := (maxes_ge (f := fun j => hgt gs j.toNat + 1) (ks := mayAt gs i) (h := 0)).2 k h
  omega
theorem hgt_le {gs : List Nd} (hV : ValidG gs) : ∀ (i : Nat), hgt gs i ≤ i := by
  intro i
  induction i using Nat.strongRecOn with
  | _ i ih =>
    rw [hgt_eq hV]
    rcases maxes_one (f := fun j => hgt gs j.toNat + 1) (ks := mayAt gs i) (h := 0) with h | ⟨k, hk, h⟩
    · rw [h]; omega
    · have h1 := mayAt_lt hV hk
      have := ih k.toNat (by omega)
      rw [h]
      omega
theorem hgt_zero {gs : List Nd} (hV : ValidG gs) (i : Nat) : hgt gs i = 0 ↔ mayAt gs i = [] := by
  constructor
  · intro h
    refine List.eq_nil_iff_forall_not_mem.2 fun k hk => ?_
    have h1 := hgt_gt hV hk
    have h2 := hgt_nonneg gs hV k.toNat
    omega
  · intro h
    rw [hgt_eq hV, h]; rfl
/-- a way leads from i to one of some nodes -/
def needB (gs : List Nd) (of : List Int) (i : Nat) : Bool := of.any fun o => reachB gs i o.toNat
theorem need_iff {gs : List Nd} (hV : ValidG gs) {of : List Int} (h0 : ∀ o ∈ of, 0 ≤ o) {i : Nat} : needB gs of i = true ↔ (i : Int) ∈ of ∨ ∃ p, (i : Int) ∈ mayAt gs p ∧ needB gs of p = true := by
  unfold needB
  simp only [List.any_eq_true]
  constructor
  · rintro ⟨o, ho, hr⟩
    have := h0 o ho
    rcases (reach_first hV).1 hr with e | ⟨j, hj, hr'⟩
    · exact .inl (by rw [← e, show ((o.toNat : Nat) : Int) = o by omega]; exact ho)
    · exact .inr ⟨j, hj, o, ho, hr'⟩
  · rintro (h | ⟨p, hp, o, ho, hr⟩)
    · exact ⟨i, h, by rw [Int.toNat_natCast]; exact reach_self gs i⟩
    · exact ⟨o, ho, (reach_first hV).2 (.inr ⟨p, hp, hr⟩)⟩
/-- what the reference knows of node j when the nodes from i on are done -/
def metB (gs : List Nd) (of : List Int) (i j : Nat) : Bool := if i ≤ j then needB gs of j else (List.range gs.length).any fun p => decide (i ≤ p) && (mayAt gs p).contains (j : Int) && needB gs of p
theorem met_end {gs : List Nd} {of : List Int} {j : Nat} : metB gs of 0 j = needB gs of j := by simp [metB]
theorem met_start {gs : List Nd} {of : List Int} {j : Nat} (h : j < gs.length) : metB gs of gs.length j = false := by
  unfold metB
  rw [if_neg (by omega), List.any_eq_false]
  intro p hp
  have := List.mem_range.1 hp
  simp; intro h; omega
theorem met_low {gs : List Nd} {of : List Int} {i j : Nat} (h : j < i) : metB gs of i j = true ↔ ∃ p, i ≤ p ∧ (j : Int) ∈ mayAt gs p ∧ needB gs of p = true := by
  unfold metB
  rw [if_neg (by omega), List.any_eq_true]
  constructor
  · rintro ⟨p, _, hp⟩
    simp only [Bool.and_eq_true, decide_eq_true_eq, List.contains_iff_mem] at hp
    exact ⟨p, hp.1.1, hp.1.2, hp.2⟩
  · rintro ⟨p, h1, h2, h3⟩
    refine ⟨p, List.mem_range.2 (mayAt_in h2), ?_⟩
    simp only [Bool.and_eq_true, decide_eq_true_eq, List.contains_iff_mem]
    exact ⟨⟨h1, h2⟩, h3⟩
theorem met_high {gs : List Nd} {of : List Int} {i j : Nat} (h : i ≤ j) : metB gs of i j = needB gs of j := by simp [metB, h]
/-- node i itself -/
theorem met_node {gs : List Nd} (hV : ValidG gs) {of : List Int} (h0 : ∀ o ∈ of, 0 ≤ o) {i : Nat} : (metB gs of (i + 1) i || of.contains (i : Int)) = needB gs of i := by
  rw [Bool.eq_iff_iff, Bool.or_eq_true, met_low (by omega), List.contains_iff_mem, need_iff hV h0]
  constructor
  · rintro (⟨p, _, h2, h3⟩ | h)
    · exact .inr ⟨p, h2, h3⟩
    · exact .inl h
  · rintro (h | ⟨p, h2, h3⟩)
    · exact .inr h
    · have := mayAt_lt hV h2
      exact .inl ⟨p, by omega, h2, h3⟩
/-- the nodes below node i -/
theorem met_next {gs : List Nd} (hV : ValidG gs) {of : List Int} {i j : Nat} (hj : j < i) : metB gs of i j = (metB gs of (i + 1) j || (needB gs of i && (mayAt gs i).contains (j : Int))) := by
  rw [Bool.eq_iff_iff, Bool.or_eq_true, met_low hj, met_low (by omega), Bool.and_eq_true, List.contains_iff_mem]
  constructor
  · rintro ⟨p, h1, h2, h3⟩
    by_cases e : p = i
    · subst e; exact .inr ⟨h3, h2⟩
    · exact .inl ⟨p, by omega, h2, h3⟩
  · rintro (⟨p, h1, h2, h3⟩ | ⟨h3, h2⟩)
    · exact ⟨p, by omega, h2, h3⟩
    · exact ⟨i, Nat.le_refl _, h2, h3⟩
theorem met_past {gs : List Nd} {of : List Int} {i j : Nat} (hj : i < j) : metB gs of (i + 1) j = metB gs of i j := by rw [met_high (by omega), met_high (by omega)]
/-- a list that is filled up to k -/
def upL {α : Type} (n k : Nat) (f : Nat → α) (z : α) : List α := (List.range n).map fun j => if j < k then f j else z
@[simp] theorem upL_length {α : Type} (n k : Nat) (f : Nat → α) (z : α) : (upL n k f z).length = n := by simp [upL]
theorem upL_zero {α : Type} (n : Nat) (f : Nat → α) (z : α) : upL n 0 f z = List.replicate n z := by
  refine List.ext_getElem (by simp) fun j h h' => ?_
  simp [upL]
theorem upL_full {α : Type} {n k : Nat} (h : n ≤ k) (f : Nat → α) (z : α) : upL n k f z = (List.range n).map f := by
  refine List.ext_getElem (by simp) fun j h1 h2 => ?_
  simp [upL] at h1 ⊢
  intro h3; omega
theorem upL_get {α : Type} {n k j : Nat} {f : Nat → α} {z : α} (h : j < (upL n k f z).length) : (upL n k f z)[j] = if j < k then f j else z := by simp [upL]
theorem upL_set {α : Type} {n k : Nat} {f : Nat → α} {z : α} (h : k < n) : (upL n k f z).set k (f k) = upL n (k + 1) f z := by
  refine List.ext_getElem (by simp) fun j h1 h2 => ?_
  rw [List.getElem_set, upL_get, upL_get]
  by_cases e : k = j
  · subst e; simp
  · rw [if_neg e]
    by_cases h3 : j < k
    · rw [if_pos h3, if_pos (by omega)]
    · rw [if_neg h3, if_neg (by omega)]
/-- the marks of the ways from n, before the nodes behind n are looked at -/
theorem upL_reach {gs : List Nd} (hV : ValidG gs) {n m : Nat} (hn : n < m) : (List.replicate m false).set n true = upL m (n + 1) (reachB gs n) false := by
  refine List.ext_getElem (by simp) fun j h1 h2 => ?_
  rw [List.getElem_set, upL_get]
  by_cases e : n = j
  · subst e; simp [reach_self]
  · rw [if_neg e]
    simp only [List.getElem_replicate]
    split
    · cases hr : reachB gs n j with
      | false => rfl
      | true => have := reach_le hV hr; omega
    · rfl
/-- a node behind n is reached if one that it has is -/
theorem reach_any {gs : List Nd} (hV : ValidG gs) {n i : Nat} (h : n < i) : reachB gs n i = (mayAt gs i).any fun k => reachB gs n k.toNat := by
  rw [Bool.eq_iff_iff, reach_iff hV, List.any_eq_true]
  exact ⟨fun h1 => h1.resolve_left (by omega), fun h1 => .inr h1⟩
theorem any_take_succ {α : Type} {p : α → Bool} {ks : List α} {t : Nat} (ht : t < ks.length) : (ks.take (t + 1)).any p = ((ks.take t).any p || p ks[t]) := by
  rw [List.take_succ_eq_append_getElem ht, List.any_append]; simp
end SG
