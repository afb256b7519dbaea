/- Plain data: lists of nodes of a graph; ways from some nodes; the reference's way upwards. No program here. -/
import Derived.Test.YtpkooglnapjcnaaPlain8
namespace SG
set_option linter.unusedSimpArgs false
set_option linter.unusedVariables false
theorem hgtUp_eq (gs : List Nd) (k : Nat) : hgtUp gs k = (List.range k).map (hgt gs) := by
  refine List.ext_getElem (by simp) fun j h1 h2 => ?_
  simp at h1
  have : at0 (hgtUp gs k) j = hgt gs j := hgtUp_at h1
  rw [at0, List.getD_eq_getElem?_getD, List.getElem?_eq_getElem (by simpa using h1)] at this
  simpa using this
theorem validG_node {gs : List Nd} (hV : ValidG gs) {i : Nat} (h : i < gs.length) : gs[i].parts.length ≤ 12 ∧ ReadsFit gs[i].parts := by
  rcases hV.2 i h with ⟨_, e⟩ | ⟨_, hv, _⟩
  · rw [e]; exact ⟨by simp, fun p hp => by simp at hp⟩
  · exact ⟨hv.2.1, hv.fit⟩
theorem validG_may {gs : List Nd} (hV : ValidG gs) {i : Nat} (h : i < gs.length) : mayV gs[i].parts = mayAt gs i := by
  rw [mayAt_eq h]
  rcases hV.2 i h with ⟨_, e⟩ | ⟨_, hv, _⟩
  · rw [e, mayL_nil]
    unfold mayV
    split
    · exact mayL_nil
    · rfl
  · exact mayV_yes (validF_iff.2 hv)
/-- the marks of the ways from n -/
def reachL (gs : List Nd) (n : Nat) : List Bool := (List.range gs.length).map (reachB gs n)
@[simp] theorem reachL_length (gs : List Nd) (n : Nat) : (reachL gs n).length = gs.length := by simp [reachL]
theorem reachL_get {gs : List Nd} {n i : Nat} (h : i < (reachL gs n).length) : (reachL gs n)[i] = reachB gs n i := by simp [reachL]
/-- an entry that is in the making -/
theorem upL_set0 {α : Type} {n k : Nat} {f : Nat → α} {z : α} (h : k < n) : (upL n k f z).set k z = upL n k f z := by
  refine List.ext_getElem (by simp) fun j h1 h2 => ?_
  rw [List.getElem_set, upL_get]
  by_cases e : k = j
  · subst e; simp
  · rw [if_neg e]
theorem upL_at {α : Type} {n k j : Nat} {f : Nat → α} {z b : α} (hj : j < k) (hk : k < n) (h : j < ((upL n k f z).set k b).length) : ((upL n k f z).set k b)[j] = f j := by
  rw [List.getElem_set, if_neg (by omega), upL_get, if_pos hj]
theorem upL_self {α : Type} {n k : Nat} {f : Nat → α} {z b : α} (h : k < ((upL n k f z).set k b).length) : ((upL n k f z).set k b)[k] = b := by simp
theorem upL_again {α : Type} {n k : Nat} {f : Nat → α} {z a b : α} : ((upL n k f z).set k a).set k b = (upL n k f z).set k b := by simp
/-- ways from some nodes -/
def fromB (gs : List Nd) (fs : List Int) (i : Nat) : Bool := fs.any fun o => reachB gs o.toNat i
theorem from_one (gs : List Nd) (n : Int) (i : Nat) : fromB gs [n] i = reachB gs n.toNat i := by simp [fromB]
theorem need_one (gs : List Nd) (n : Int) (i : Nat) : needB gs [n] i = reachB gs i n.toNat := by simp [needB]
theorem from_eq {gs : List Nd} (hV : ValidG gs) {fs : List Int} (h0 : ∀ o ∈ fs, 0 ≤ o) {i : Nat} : fromB gs fs i = (fs.contains (i : Int) || (mayAt gs i).any fun k => fromB gs fs k.toNat) := by
  rw [Bool.eq_iff_iff, Bool.or_eq_true, List.contains_iff_mem, List.any_eq_true]
  unfold fromB
  simp only [List.any_eq_true]
  constructor
  · rintro ⟨o, ho, hr⟩
    have := h0 o ho
    rcases (reach_iff hV).1 hr with e | ⟨k, hk, hr'⟩
    · exact .inl (by rw [e, show ((o.toNat : Nat) : Int) = o by omega]; exact ho)
    · exact .inr ⟨k, hk, o, ho, hr'⟩
  · rintro (h | ⟨k, hk, o, ho, hr⟩)
    · exact ⟨i, h, by rw [Int.toNat_natCast]; exact reach_self gs i⟩
    · exact ⟨o, ho, reach_step hV hk hr⟩
theorem whichL_at {p : Nat → Bool} {n : Nat} {k : Int} (h0 : 0 ≤ k) (h : k < n) : (whichL n p).contains k = p k.toNat := by
  have := whichL_contains (n := n) (i := k.toNat) (p := p)
  rw [show ((k.toNat : Nat) : Int) = k by omega] at this
  rw [this, decide_eq_true (by omega), Bool.true_and]
/-- what the reference knows of all nodes when the nodes from i on are done -/
def metL (gs : List Nd) (of : List Int) (i : Nat) : List Bool := (List.range gs.length).map (metB gs of i)
@[simp] theorem metL_length (gs : List Nd) (of : List Int) (i : Nat) : (metL gs of i).length = gs.length := by simp [metL]
theorem metL_get {gs : List Nd} {of : List Int} {i j : Nat} (h : j < (metL gs of i).length) : (metL gs of i)[j] = metB gs of i j := by simp [metL]
theorem metL_start (gs : List Nd) (of : List Int) : List.replicate gs.length false = metL gs of gs.length := by
  refine List.ext_getElem (by simp) fun j h1 h2 => ?_
  rw [metL_get, met_start (by simpa using h1)]; simp
theorem metL_end {gs : List Nd} {of : List Int} {j : Nat} (h : j < (metL gs of 0).length) : (metL gs of 0)[j] = needB gs of j := by rw [metL_get, met_end]
/-- .. while node i is looked at, with its first t nodes done -/
def midL (gs : List Nd) (of : List Int) (i t : Nat) : List Bool := (List.range gs.length).map fun j => if j < i then metB gs of (i + 1) j || (needB gs of i && ((mayAt gs i).take t).contains (j : Int)) else needB gs of j
@[simp] theorem midL_length (gs : List Nd) (of : List Int) (i t : Nat) : (midL gs of i t).length = gs.length := by simp [midL]
theorem midL_get {gs : List Nd} {of : List Int} {i t j : Nat} (h : j < (midL gs of i t).length) : (midL gs of i t)[j] = if j < i then metB gs of (i + 1) j || (needB gs of i && ((mayAt gs i).take t).contains (j : Int)) else needB gs of j := by simp [midL]
theorem midL_self {gs : List Nd} {of : List Int} {i t : Nat} (h : i < (midL gs of i t).length) : (midL gs of i t)[i] = needB gs of i := by rw [midL_get, if_neg (by omega)]
theorem midL_zero {gs : List Nd} (hV : ValidG gs) {of : List Int} (h0 : ∀ o ∈ of, 0 ≤ o) {i : Nat} : (metL gs of (i + 1)).set i (metB gs of (i + 1) i || of.contains (i : Int)) = midL gs of i 0 := by
  rw [met_node hV h0]
  refine List.ext_getElem (by simp) fun j h1 h2 => ?_
  rw [List.getElem_set, midL_get, metL_get]
  by_cases e : i = j
  · subst e; simp
  · rw [if_neg e]
    by_cases h : j < i
    · rw [if_pos h]; simp
    · rw [if_neg h, met_past (by omega), met_high (by omega)]
theorem midL_step {gs : List Nd} (hV : ValidG gs) {of : List Int} {i t : Nat} (ht : t < (mayAt gs i).length) (hn : needB gs of i = true) : (midL gs of i t).set ((mayAt gs i)[t]).toNat true = midL gs of i (t + 1) := by
  have hk := mayAt_lt hV (List.getElem_mem ht)
  refine List.ext_getElem (by simp) fun j h1 h2 => ?_
  rw [List.getElem_set, midL_get, midL_get, List.take_succ_eq_append_getElem ht]
  generalize (mayAt gs i)[t] = x at *
  by_cases h : j < i
  · rw [if_pos h, if_pos h, hn]
    by_cases e : x.toNat = j
    · have : (j : Int) = x := by omega
      rw [if_pos e, this]; simp
    · have : ¬ (j : Int) = x := by omega
      rw [if_neg e]; simp [this]
  · rw [if_neg (by omega), if_neg h, if_neg h]
theorem midL_full {gs : List Nd} (hV : ValidG gs) {of : List Int} {i t : Nat} (h : (mayAt gs i).length ≤ t ∨ needB gs of i = false) : midL gs of i t = metL gs of i := by
  refine List.ext_getElem (by simp) fun j h1 h2 => ?_
  rw [midL_get, metL_get]
  by_cases hj : j < i
  · rw [if_pos hj, met_next hV hj]
    rcases h with h | h
    · rw [List.take_of_length_le h]
    · rw [h]; simp
  · rw [if_neg hj, met_high (by omega)]
/-- effects -/
def effB (gs : List Nd) (i : Nat) : Bool := decide (kindAt gs i = 2)
def effL (gs : List Nd) : List Int := whichL gs.length (effB gs)
theorem effL_nonneg (gs : List Nd) : ∀ o ∈ effL gs, 0 ≤ o := fun o ho => by
  obtain ⟨k, _, _, rfl⟩ := mem_whichL.1 ho
  omega
def watchB (gs : List Nd) (i : Nat) : Bool := (List.range gs.length).any fun k => reachB gs i k && effB gs k
theorem watch_need (gs : List Nd) (i : Nat) : needB gs (effL gs) i = watchB gs i := by
  rw [Bool.eq_iff_iff]
  unfold needB watchB effL
  simp only [List.any_eq_true]
  constructor
  · rintro ⟨o, ho, hr⟩
    obtain ⟨k, hk, he, rfl⟩ := mem_whichL.1 ho
    exact ⟨k, List.mem_range.2 hk, by rw [Int.toNat_natCast] at hr; simp [hr, he]⟩
  · rintro ⟨k, hk, hr⟩
    rw [Bool.and_eq_true] at hr
    exact ⟨k, mem_whichL.2 ⟨k, List.mem_range.1 hk, hr.2, rfl⟩, by rw [Int.toNat_natCast]; exact hr.1⟩
theorem watch_yes {gs : List Nd} {i k : Nat} (hk : k < gs.length) (hr : reachB gs i k = true) (he : kindAt gs k = 2) : watchB gs i = true := by
  unfold watchB
  rw [List.any_eq_true]
  exact ⟨k, List.mem_range.2 hk, by rw [hr]; simp [effB, he]⟩
theorem watch_no {gs : List Nd} {i : Nat} (h : ∀ k, k < gs.length → ¬ (reachB gs i k = true ∧ kindAt gs k = 2)) : watchB gs i = false := by
  unfold watchB
  rw [List.any_eq_false]
  intro k hk hr
  rw [Bool.and_eq_true] at hr
  exact h k (List.mem_range.1 hk) ⟨hr.1, of_decide_eq_true hr.2⟩
/-- the heights of the first nodes -/
def hgtR (gs : List Nd) (k : Nat) : List Int := (List.range k).map (hgt gs)
@[simp] theorem hgtR_length (gs : List Nd) (k : Nat) : (hgtR gs k).length = k := by simp [hgtR]
theorem hgtR_get {gs : List Nd} {k j : Nat} (h : j < (hgtR gs k).length) : (hgtR gs k)[j] = hgt gs j := by simp [hgtR]
theorem hgtR_succ (gs : List Nd) (k : Nat) : hgtR gs k ++ [hgt gs k] = hgtR gs (k + 1) := by simp [hgtR, List.range_succ]
theorem hgtR_up (gs : List Nd) (n : Nat) : upL n n (hgt gs) 0 = hgtR gs n := upL_full (Nat.le_refl n) _ _
/-- what the functions answer -/
noncomputable def hgtsL (gs : List Nd) : List Int := if validG gs = true then hgtR gs gs.length else []
noncomputable def onlyL (gs : List Nd) (n : Int) (p : Nat → Bool) : List Int := if (validG gs && inB n 0 ((gs.length : Int) - 1)) = true then whichL gs.length p else []
noncomputable def usersL (gs : List Nd) (n : Int) : List Int := onlyL gs n (usesB gs n)
noncomputable def reachOfL (gs : List Nd) (n : Int) : List Int := onlyL gs n (reachB gs n.toNat)
noncomputable def needOfL (gs : List Nd) (n : Int) : List Int := onlyL gs n fun i => reachB gs i n.toNat
noncomputable def watchedL (gs : List Nd) : List Int := if validG gs = true then whichL gs.length (watchB gs) else []
theorem hgtsL_no {gs : List Nd} (h : validG gs = false) : hgtsL gs = [] := by simp [hgtsL, h]
theorem hgtsL_yes {gs : List Nd} (h : validG gs = true) : hgtsL gs = hgtR gs gs.length := by simp [hgtsL, h]
theorem watchedL_no {gs : List Nd} (h : validG gs = false) : watchedL gs = [] := by simp [watchedL, h]
theorem watchedL_yes {gs : List Nd} (h : validG gs = true) : watchedL gs = whichL gs.length (watchB gs) := by simp [watchedL, h]
theorem onlyL_no {gs : List Nd} {n : Int} {p : Nat → Bool} (h : validG gs = false) : onlyL gs n p = [] := by simp [onlyL, h]
theorem onlyL_out {gs : List Nd} {n : Int} {p : Nat → Bool} (h : inB n 0 ((gs.length : Int) - 1) = false) : onlyL gs n p = [] := by simp [onlyL, h]
theorem onlyL_yes {gs : List Nd} {n : Int} {p : Nat → Bool} (h : validG gs = true) (h' : inB n 0 ((gs.length : Int) - 1) = true) : onlyL gs n p = whichL gs.length p := by simp [onlyL, h, h']
theorem onlyL_length (gs : List Nd) (n : Int) (p : Nat → Bool) : (onlyL gs n p).length ≤ gs.length := by
  unfold onlyL
  split
  · exact whichL_length _ _
  · simp
theorem onlyL_ten (gs : List Nd) (n : Int) (p : Nat → Bool) : (onlyL gs n p).length ≤ 10 := by
  unfold onlyL
  split
  · rename_i h
    rw [Bool.and_eq_true] at h
    have := whichL_length gs.length p
    have := (validG_iff.1 h.1).1
    omega
  · simp
theorem onlyL_asc (gs : List Nd) (n : Int) (p : Nat → Bool) : Asc (onlyL gs n p) := by
  unfold onlyL
  split
  · exact whichL_asc _ _
  · exact List.Pairwise.nil
theorem onlyL_congr {gs : List Nd} {n : Int} {p q : Nat → Bool} (h : validG gs = true → inB n 0 ((gs.length : Int) - 1) = true → ∀ k, k < gs.length → p k = q k) : onlyL gs n p = onlyL gs n q := by
  unfold onlyL
  split
  · rename_i h1
    rw [Bool.and_eq_true] at h1
    exact whichL_congr (h h1.1 h1.2)
  · rfl
theorem hgtsL_ten (gs : List Nd) : (hgtsL gs).length ≤ 10 := by
  unfold hgtsL
  split
  · rename_i h
    have := (validG_iff.1 h).1
    simpa using this
  · simp
theorem watchedL_ten (gs : List Nd) : (watchedL gs).length ≤ 10 := by
  unfold watchedL
  split
  · rename_i h
    have := (validG_iff.1 h).1
    have := whichL_length gs.length (watchB gs)
    omega
  · simp
theorem watchedL_asc (gs : List Nd) : Asc (watchedL gs) := by
  unfold watchedL
  split
  · exact whichL_asc _ _
  · exact List.Pairwise.nil
theorem usersL_ten (gs : List Nd) (n : Int) : (usersL gs n).length ≤ 10 := onlyL_ten _ _ _
theorem reachOfL_ten (gs : List Nd) (n : Int) : (reachOfL gs n).length ≤ 10 := onlyL_ten _ _ _
theorem needOfL_ten (gs : List Nd) (n : Int) : (needOfL gs n).length ≤ 10 := onlyL_ten _ _ _
/-- users lie behind -/
theorem users_low {gs : List Nd} (hV : ValidG gs) {n : Nat} : whichL (n + 1) (usesB gs n) = [] := by
  refine List.eq_nil_iff_forall_not_mem.2 fun x hx => ?_
  obtain ⟨k, hk, hu, _⟩ := mem_whichL.1 hx
  have := mayAt_lt hV (List.contains_iff_mem.1 hu)
  omega
theorem need_single {gs : List Nd} (hV : ValidG gs) {n : Nat} (hn : n < gs.length) : (whichL gs.length fun i => reachB gs i n).length = 1 ↔ mayAt gs n = [] := by
  have hnm : (n : Int) ∈ whichL gs.length fun i => reachB gs i n := mem_whichL.2 ⟨n, hn, reach_self gs n, rfl⟩
  have hnd := (whichL_asc gs.length fun i => reachB gs i n)
  constructor
  · intro h
    refine List.eq_nil_iff_forall_not_mem.2 fun k hk => ?_
    have h1 := mayAt_lt hV hk
    have hkm : k ∈ whichL gs.length fun i => reachB gs i n := mem_whichL.2 ⟨k.toNat, by omega, reach_step hV hk (reach_self gs _), by omega⟩
    obtain ⟨a, ha⟩ := List.length_eq_one_iff.1 h
    rw [ha, List.mem_singleton] at hkm hnm
    omega
  · intro h
    have hall : ∀ x ∈ (whichL gs.length fun i => reachB gs i n), x = (n : Int) := fun x hx => by
      obtain ⟨k, _, hr, rfl⟩ := mem_whichL.1 hx
      rcases (reach_iff hV).1 hr with e | ⟨k', hk', _⟩
      · rw [e]
      · rw [h] at hk'; simp at hk'
    generalize (whichL gs.length fun i => reachB gs i n) = l at *
    match l with
    | [] => simp at hnm
    | [a] => rfl
    | a :: b :: l =>
      have e1 := hall a (by simp)
      have e2 := hall b (by simp)
      have := List.rel_of_pairwise_cons hnd (show b ∈ b :: l by simp)
      omega
end SG
