/- Plain data: what the laws of heights, users and ways ask. No program here. -/
import Derived.Test.YtphapjfhcbledaaPlain10
namespace SG
set_option linter.unusedSimpArgs false
set_option linter.unusedVariables false
theorem inB_node {gs : List Nd} {i : Nat} (h : i < gs.length) : inB (i : Int) 0 ((gs.length : Int) - 1) = true := inB_iff.2 ⟨by omega, by omega⟩
theorem onlyL_some {gs : List Nd} {n : Int} {p : Nat → Bool} (h : onlyL gs n p ≠ []) : validG gs = true ∧ 0 ≤ n ∧ n < gs.length := by
  unfold onlyL at h
  split at h
  · rename_i h1
    rw [Bool.and_eq_true] at h1
    have := inB_iff.1 h1.2
    exact ⟨h1.1, this.1, by omega⟩
  · exact absurd rfl h
theorem onlyL_mem {gs : List Nd} {n x : Int} {p : Nat → Bool} (h : validG gs = true) (h0 : 0 ≤ n) (h1 : n < gs.length) : x ∈ onlyL gs n p ↔ ∃ k, k < gs.length ∧ p k = true ∧ (k : Int) = x := by
  rw [onlyL_yes h (inB_iff.2 ⟨h0, by omega⟩), mem_whichL]
theorem onlyL_low {gs : List Nd} {n x : Int} {p : Nat → Bool} (hx : x ∈ onlyL gs n p) : 0 ≤ x ∧ x < gs.length ∧ p x.toNat = true := by
  have hs := onlyL_some (List.ne_nil_of_mem hx)
  obtain ⟨k, hk, hp, rfl⟩ := (onlyL_mem hs.1 hs.2.1 hs.2.2).1 hx
  exact ⟨by omega, by omega, by rw [Int.toNat_natCast]; exact hp⟩
theorem onlyL_contains {gs : List Nd} {n : Int} {p : Nat → Bool} (h : validG gs = true) (h0 : 0 ≤ n) (h1 : n < gs.length) {i : Nat} (hi : i < gs.length) : (onlyL gs n p).contains (i : Int) = p i := by
  rw [onlyL_yes h (inB_iff.2 ⟨h0, by omega⟩), whichL_contains, decide_eq_true hi, Bool.true_and]
theorem users_may {gs : List Nd} {n : Int} (h : validG gs = true) (h0 : 0 ≤ n) (h1 : n < gs.length) {i : Nat} (hi : i < gs.length) : (usersL gs n).contains (i : Int) = (mayV gs[i].parts).contains n := by
  rw [usersL, onlyL_contains h h0 h1 hi, validG_may (validG_iff.1 h) hi]; rfl
theorem users_effect {gs : List Nd} {n : Int} (h : validG gs = true) (hk : kindAt gs n = 2) : usersL gs n = [] := by
  refine List.eq_nil_iff_forall_not_mem.2 fun x hx => ?_
  have := (onlyL_low hx).2.2
  exact (mayAt_lt (validG_iff.1 h) (List.contains_iff_mem.1 this)).2.2 hk
theorem users_high {gs : List Nd} {n : Nat} {x : Int} (hx : x ∈ usersL gs n) : validG gs = true ∧ x < gs.length ∧ 0 ≤ x ∧ hgt gs n < hgt gs x.toNat := by
  have hs := onlyL_some (List.ne_nil_of_mem hx)
  have hl := onlyL_low hx
  have := hgt_gt (validG_iff.1 hs.1) (List.contains_iff_mem.1 hl.2.2)
  rw [Int.toNat_natCast] at this
  exact ⟨hs.1, hl.2.1, hl.1, this⟩
theorem need_height {gs : List Nd} (h : validG gs = true) {n : Nat} (hn : n < gs.length) : (needOfL gs n).length = 1 ↔ hgt gs n = 0 := by
  rw [hgt_zero (validG_iff.1 h), needOfL, onlyL_yes h (inB_node hn), Int.toNat_natCast]
  exact need_single (validG_iff.1 h) hn
theorem users_reach {gs : List Nd} {n : Int} {i : Nat} (h : validG gs = true) (h0 : 0 ≤ n) (h1 : n < gs.length) (hi : i < gs.length) (hr : reachB gs n.toNat i = true) : ∀ x ∈ usersL gs i, x ∈ reachOfL gs n := fun x hx => by
  have hl := onlyL_low hx
  refine (onlyL_mem h h0 h1).2 ⟨x.toNat, by omega, ?_, by omega⟩
  exact reach_step (validG_iff.1 h) (List.contains_iff_mem.1 hl.2.2) (by rw [Int.toNat_natCast]; exact hr)
theorem asc_head {xs : List Int} {n : Int} (ha : Asc xs) (hm : n ∈ xs) (hle : ∀ x ∈ xs, n ≤ x) (h : 0 < xs.length) : xs[0] = n := by
  obtain ⟨i, hi, e⟩ := List.mem_iff_getElem.1 hm
  have h0 := hle _ (List.getElem_mem h)
  by_cases hz : i = 0
  · subst hz; exact e
  · have := List.pairwise_iff_getElem.1 ha 0 i h hi (by omega)
    omega
theorem asc_end {xs : List Int} {n : Int} (ha : Asc xs) (hm : n ∈ xs) (hle : ∀ x ∈ xs, x ≤ n) (h : xs.length - 1 < xs.length) : xs[xs.length - 1] = n := by
  obtain ⟨i, hi, e⟩ := List.mem_iff_getElem.1 hm
  have h0 := hle _ (List.getElem_mem h)
  by_cases hz : i = xs.length - 1
  · subst hz; exact e
  · have := List.pairwise_iff_getElem.1 ha i (xs.length - 1) hi h (by omega)
    omega
theorem reach_head {gs : List Nd} {n : Int} (h : 0 < (reachOfL gs n).length) : (reachOfL gs n)[0] = n := by
  have hs := onlyL_some (List.ne_nil_of_length_pos h)
  refine asc_head (onlyL_asc _ _ _) ((onlyL_mem hs.1 hs.2.1 hs.2.2).2 ⟨n.toNat, by omega, reach_self _ _, by omega⟩) (fun x hx => ?_) h
  have hl := onlyL_low hx
  have := reach_le (validG_iff.1 hs.1) hl.2.2
  omega
theorem need_last {gs : List Nd} {n : Int} (h : (needOfL gs n).length - 1 < (needOfL gs n).length) : (needOfL gs n)[(needOfL gs n).length - 1] = n := by
  have hne : needOfL gs n ≠ [] := List.ne_nil_of_length_pos (by omega)
  have hs := onlyL_some hne
  have hm : n ∈ needOfL gs n := (onlyL_mem hs.1 hs.2.1 hs.2.2).2 ⟨n.toNat, by omega, reach_self gs _, by omega⟩
  have ha : Asc (needOfL gs n) := onlyL_asc _ _ _
  refine asc_end ha hm (fun x hx => ?_) h
  have hl := onlyL_low hx
  have := reach_le (validG_iff.1 hs.1) hl.2.2
  omega
theorem need_last_at {gs : List Nd} {n : Int} {k : Nat} (hk : k + 1 = (needOfL gs n).length) (h : k < (needOfL gs n).length) : (needOfL gs n)[k] = n := by
  obtain rfl : k = (needOfL gs n).length - 1 := by omega
  exact need_last h
/-- node n, and what its first t nodes need -/
noncomputable def allL (gs : List Nd) (n : Int) (ks : List Int) (t : Nat) : List Int := n :: (ks.take t).flatMap (needOfL gs)
theorem allL_zero (gs : List Nd) (n : Int) (ks : List Int) : allL gs n ks 0 = [n] := by simp [allL]
theorem allL_succ (gs : List Nd) (n : Int) (ks : List Int) {t : Nat} (h : t < ks.length) : allL gs n ks t ++ needOfL gs ks[t] = allL gs n ks (t + 1) := by
  unfold allL
  rw [List.take_succ_eq_append_getElem h, List.flatMap_append]; simp
theorem allL_length (gs : List Nd) (n : Int) (ks : List Int) (t : Nat) : (allL gs n ks t).length ≤ 1 + 10 * t := by
  induction t with
  | zero => simp [allL]
  | succ t ih =>
    by_cases h : t < ks.length
    · rw [← allL_succ gs n ks h, List.length_append]
      have := needOfL_ten gs ks[t]
      omega
    · have : allL gs n ks (t + 1) = allL gs n ks t := by unfold allL; rw [List.take_of_length_le (by omega), List.take_of_length_le (by omega)]
      rw [this]; omega
theorem all_need {gs : List Nd} {n : Int} (h : validG gs = true) (h0 : 0 ≤ n) (h1 : n < gs.length) : ∀ x, x ∈ allL gs n (mayAt gs n.toNat) (mayAt gs n.toNat).length ↔ x ∈ needOfL gs n := by
  have hV := validG_iff.1 h
  intro x
  unfold allL
  rw [List.take_length, List.mem_cons, List.mem_flatMap]
  constructor
  · rintro (rfl | ⟨k, hk, hx⟩)
    · exact (onlyL_mem h h0 h1).2 ⟨x.toNat, by omega, reach_self _ _, by omega⟩
    · have hl := onlyL_low hx
      exact (onlyL_mem h h0 h1).2 ⟨x.toNat, by omega, reach_step hV hk hl.2.2, by omega⟩
  · intro hx
    have hl := onlyL_low hx
    rcases (reach_iff hV).1 hl.2.2 with e | ⟨k, hk, hr⟩
    · exact .inl (by omega)
    · have hk2 := mayAt_lt hV hk
      exact .inr ⟨k, hk, (onlyL_mem h hk2.1 (by omega)).2 ⟨x.toNat, by omega, hr, by omega⟩⟩
theorem watch_reach {gs : List Nd} (h : validG gs = true) {i : Nat} (hi : i < gs.length) : (watchedL gs).contains (i : Int) = (reachOfL gs i).any fun k => decide (kindAt gs k = 2) := by
  rw [watchedL_yes h, whichL_contains, decide_eq_true hi, Bool.true_and, Bool.eq_iff_iff]
  unfold watchB
  simp only [List.any_eq_true, Bool.and_eq_true, decide_eq_true_eq]
  constructor
  · rintro ⟨k, hk, hr, he⟩
    have hk := List.mem_range.1 hk
    exact ⟨k, (onlyL_mem h (by omega) (by omega)).2 ⟨k, hk, by rw [Int.toNat_natCast]; exact hr, rfl⟩, by simpa [effB] using he⟩
  · rintro ⟨x, hx, he⟩
    have hl := onlyL_low hx
    refine ⟨x.toNat, List.mem_range.2 (by omega), by rw [Int.toNat_natCast] at hl; exact hl.2.2, ?_⟩
    rw [effB, show ((x.toNat : Nat) : Int) = x by omega]
    exact decide_eq_true he
end SG
