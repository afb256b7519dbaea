/- Plain data: what must run, and what may run. No program here. -/
import Derived.Test.YtllepoepfkobfaaPB
namespace SG
set_option linter.unusedSimpArgs false
set_option linter.unusedVariables false
theorem diffL_mem {gs : List Nd} {xs ys : List Int} {x : Int} : x ∈ diffL gs xs ys ↔ (0 ≤ x ∧ x < gs.length) ∧ mean gs xs x.toNat ≠ mean gs ys x.toNat := by
  unfold diffL
  rw [mem_whichL]
  constructor
  · rintro ⟨k, hk, hp, rfl⟩
    rw [Int.toNat_natCast]
    exact ⟨⟨by omega, by omega⟩, of_decide_eq_true hp⟩
  · rintro ⟨⟨h0, h1⟩, hp⟩
    exact ⟨x.toNat, by omega, decide_eq_true hp, by omega⟩
theorem dep_changed {gs : List Nd} (hV : ValidG gs) {xs ys : List Int} {i : Nat} (hi : i < gs.length) (hk : gs[i].kind ≠ 0) (h : mean gs xs i ≠ mean gs ys i) : ∃ n ∈ depAt gs xs i, mean gs xs n.toNat ≠ mean gs ys n.toNat := by
  refine Classical.byContradiction fun hno => h ?_
  have hg := (goodNd_der hV hi hk).2
  have hp := hg.1.1
  rw [← mean_val (xs := xs) hV hi hk, ← mean_val (xs := ys) hV hi hk]
  unfold valL
  rw [evL_congr (vals' := valF (meanL gs ys)) (vals := valF (meanL gs xs)) hg.1.2.2.1 _ (by omega) fun n hn => ?_]
  have hd : n ∈ depAt gs xs i := by
    rw [depAt_der hi hk]
    exact mem_addAll.2 (.inr hn)
  have hm := mayAt_lt hV (depAt_may hV n hd)
  have he : mean gs xs n.toNat = mean gs ys n.toNat := Classical.byContradiction fun hne => hno ⟨n, hd, hne⟩
  show at0 (meanL gs ys) n.toNat = at0 (meanL gs xs) n.toNat
  rw [meanL_at (by omega), meanL_at (by omega), he]
def mustB (gs : List Nd) (xs ys : List Int) (i : Nat) : Bool := !decide (kindAt gs i = 0) && (decide (mean gs xs i ≠ mean gs ys i) || (depAt gs xs i).any fun n => decide (mean gs xs n.toNat ≠ mean gs ys n.toNat))
theorem must_meets {gs : List Nd} (hV : ValidG gs) {xs ys : List Int} {i : Nat} (hi : i < gs.length) : mustB gs xs ys i = (!decide (kindAt gs i = 0) && (depAt gs xs i).any fun n => (diffL gs xs ys).contains n) := by
  unfold mustB
  by_cases hk : kindAt gs i = 0
  · simp [hk]
  · have hk' : gs[i].kind ≠ 0 := by rw [← kindAt_eq hi]; exact hk
    rw [decide_eq_false hk]
    simp only [Bool.not_false, Bool.true_and]
    rw [Bool.eq_iff_iff, Bool.or_eq_true, List.any_eq_true, List.any_eq_true, decide_eq_true_eq]
    have hkey : ∀ n ∈ depAt gs xs i, (diffL gs xs ys).contains n = true ↔ mean gs xs n.toNat ≠ mean gs ys n.toNat := fun n hn => by
      have hm := mayAt_lt hV (depAt_may hV n hn)
      rw [List.contains_iff_mem, diffL_mem]
      exact ⟨fun h => h.2, fun h => ⟨⟨hm.1, by omega⟩, h⟩⟩
    constructor
    · rintro (h | ⟨n, hn, h⟩)
      · obtain ⟨n, hn, hne⟩ := dep_changed hV hi hk' h
        exact ⟨n, hn, (hkey n hn).2 hne⟩
      · exact ⟨n, hn, (hkey n hn).2 (of_decide_eq_true h)⟩
    · rintro ⟨n, hn, h⟩
      exact .inr ⟨n, hn, decide_eq_true ((hkey n hn).1 h)⟩
noncomputable def mustL (gs : List Nd) (xs ys : List Int) : List Int := if (cellsV gs xs && cellsV gs ys) = true then whichL gs.length (mustB gs xs ys) else []
theorem mustL_no {gs : List Nd} {xs ys : List Int} (h : cellsV gs xs = false ∨ cellsV gs ys = false) : mustL gs xs ys = [] := by
  rw [mustL, if_neg]
  rw [Bool.and_eq_true]
  rintro ⟨h1, h2⟩
  rcases h with h | h
  · rw [h1] at h; cases h
  · rw [h2] at h; cases h
theorem mustL_yes {gs : List Nd} {xs ys : List Int} (h : cellsV gs xs = true) (h' : cellsV gs ys = true) : mustL gs xs ys = whichL gs.length (mustB gs xs ys) := by simp [mustL, h, h']
theorem mustL_ten (gs : List Nd) (xs ys : List Int) : (mustL gs xs ys).length ≤ 10 := by
  unfold mustL
  split
  · rename_i h
    rw [Bool.and_eq_true] at h
    have := whichL_length gs.length (mustB gs xs ys)
    have := (cellsV_len h.1).2
    omega
  · simp
theorem mustL_asc (gs : List Nd) (xs ys : List Int) : Asc (mustL gs xs ys) := by
  unfold mustL
  split
  · exact whichL_asc _ _
  · exact List.Pairwise.nil
theorem mustL_same (gs : List Nd) (xs : List Int) : mustL gs xs xs = [] := by
  unfold mustL
  split
  · refine List.eq_nil_iff_forall_not_mem.2 fun x hx => ?_
    obtain ⟨k, _, hp, _⟩ := mem_whichL.1 hx
    unfold mustB at hp
    rw [Bool.and_eq_true, Bool.or_eq_true, List.any_eq_true] at hp
    rcases hp.2 with h | ⟨n, _, h⟩
    · exact of_decide_eq_true h rfl
    · exact of_decide_eq_true h rfl
  · rfl
theorem must_has {gs : List Nd} {xs ys : List Int} (h : cellsV gs xs = true) (h' : cellsV gs ys = true) {x : Int} (hx : x ∈ diffL gs xs ys) (hk : kindAt gs x ≠ 0) : x ∈ mustL gs xs ys := by
  obtain ⟨⟨h0, h1⟩, hne⟩ := diffL_mem.1 hx
  rw [mustL_yes h h', mem_whichL]
  refine ⟨x.toNat, by omega, ?_, by omega⟩
  unfold mustB
  rw [show ((x.toNat : Nat) : Int) = x by omega]
  simp [hk, hne]
/-- different cells -/
noncomputable def wrB (gs : List Nd) (ns : List Int) : Bool := ns.all (cellB gs) && decide ns.Nodup
theorem wrB_iff {gs : List Nd} {ns : List Int} : wrB gs ns = true ↔ (∀ n ∈ ns, cellB gs n = true) ∧ ns.Nodup := by
  rw [wrB, Bool.and_eq_true, List.all_eq_true, decide_eq_true_eq]
theorem wr_low {gs : List Nd} {ns : List Int} (h : wrB gs ns = true) : ∀ n ∈ ns, (0 ≤ n ∧ n < gs.length) ∧ kindAt gs n = 0 := fun n hn => cellB_iff.1 ((wrB_iff.1 h).1 n hn)
theorem wr_length {gs : List Nd} {ns : List Int} (h : wrB gs ns = true) : ns.length ≤ gs.length := by
  exact nodup_lt gs.length (wrB_iff.1 h).2 fun x hx => (wr_low h x hx).1
def mayB (gs : List Nd) (ns : List Int) (i : Nat) : Bool := !decide (kindAt gs i = 0) && fromB gs ns i
noncomputable def mayRunL (gs : List Nd) (ns : List Int) : List Int := if (validG gs && wrB gs ns) = true then whichL gs.length (mayB gs ns) else []
theorem mayRunL_no1 {gs : List Nd} {ns : List Int} (h : validG gs = false) : mayRunL gs ns = [] := by simp [mayRunL, h]
theorem mayRunL_no2 {gs : List Nd} {ns : List Int} (h : wrB gs ns = false) : mayRunL gs ns = [] := by simp [mayRunL, h]
theorem mayRunL_yes {gs : List Nd} {ns : List Int} (h : validG gs = true) (h' : wrB gs ns = true) : mayRunL gs ns = whichL gs.length (mayB gs ns) := by simp [mayRunL, h, h']
theorem mayRunL_ten (gs : List Nd) (ns : List Int) : (mayRunL gs ns).length ≤ 10 := by
  unfold mayRunL
  split
  · rename_i h
    rw [Bool.and_eq_true] at h
    have := whichL_length gs.length (mayB gs ns)
    have := (validG_iff.1 h.1).1
    omega
  · simp
theorem mayRunL_asc (gs : List Nd) (ns : List Int) : Asc (mayRunL gs ns) := by
  unfold mayRunL
  split
  · exact whichL_asc _ _
  · exact List.Pairwise.nil
end SG
