/- Plain data: what meanings, set cells and changes answer. No program here. -/
import Derived.Test.YtpkooglnapjcnaaPlain9
import Derived.Test.YtpkooglnapjcnaaPlain10
namespace SG
set_option linter.unusedSimpArgs false
set_option linter.unusedVariables false
theorem upL_val {n i k : Nat} {f : Nat → Int} (hk : k < i) (hi : i ≤ n) : valF (upL n i f 0) (k : Int) = f k := by
  show at0 (upL n i f 0) (Int.toNat _) = f k
  rw [Int.toNat_natCast, at0, List.getD_eq_getElem?_getD, List.getElem?_eq_getElem (by simp; omega), Option.getD_some, upL_get, if_pos hk]
theorem meanUp_cell {gs : List Nd} {xs : List Int} {i : Nat} (hi : i < gs.length) (hk : gs[i].kind = 0) : meanUp gs xs i ++ [at0 xs i] = meanUp gs xs (i + 1) := by
  show _ = meanUp gs xs i ++ [match gs[i]? with
    | none => 0
    | some n => if n.kind = 0 then at0 xs i else valL n.parts (valF (meanUp gs xs i))]
  rw [List.getElem?_eq_getElem hi]
  simp [hk]
theorem meanUp_der {gs : List Nd} {xs : List Int} {i : Nat} (hi : i < gs.length) (hk : gs[i].kind ≠ 0) : meanUp gs xs i ++ [valL gs[i].parts (valF (meanUp gs xs i))] = meanUp gs xs (i + 1) := by
  show _ = meanUp gs xs i ++ [match gs[i]? with
    | none => 0
    | some n => if n.kind = 0 then at0 xs i else valL n.parts (valF (meanUp gs xs i))]
  rw [List.getElem?_eq_getElem hi]
  simp [hk]
theorem meanL_map (gs : List Nd) (xs : List Int) : (List.range gs.length).map (mean gs xs) = meanL gs xs := by
  refine List.ext_getElem (by simp) fun j h1 h2 => ?_
  rw [meanL_get]; simp
def depsL (gs : List Nd) (xs : List Int) : List (List Int) := (List.range gs.length).map (depAt gs xs)
@[simp] theorem depsL_length (gs : List Nd) (xs : List Int) : (depsL gs xs).length = gs.length := by simp [depsL]
theorem depsL_get {gs : List Nd} {xs : List Int} {i : Nat} (h : i < (depsL gs xs).length) : (depsL gs xs)[i] = depAt gs xs i := by simp [depsL]
/-- the graph is valid, and so are the cells -/
noncomputable def cellsV (gs : List Nd) (xs : List Int) : Bool := validG gs && cellsOkB gs xs
theorem cellsV_iff {gs : List Nd} {xs : List Int} : cellsV gs xs = true ↔ ValidG gs ∧ CellsOk gs xs := by
  rw [cellsV, Bool.and_eq_true, validG_iff, cellsOkB_iff]
theorem cellsV_len {gs : List Nd} {xs : List Int} (h : cellsV gs xs = true) : xs.length = gs.length ∧ gs.length ≤ 10 := by
  have := cellsV_iff.1 h
  exact ⟨this.2.1, this.1.1⟩
noncomputable def meanOfL (gs : List Nd) (xs : List Int) : List Int := if cellsV gs xs = true then meanL gs xs else []
theorem meanOfL_no {gs : List Nd} {xs : List Int} (h : cellsV gs xs = false) : meanOfL gs xs = [] := by simp [meanOfL, h]
theorem meanOfL_yes {gs : List Nd} {xs : List Int} (h : cellsV gs xs = true) : meanOfL gs xs = meanL gs xs := by simp [meanOfL, h]
theorem meanOfL_ten (gs : List Nd) (xs : List Int) : (meanOfL gs xs).length ≤ 10 := by
  unfold meanOfL
  split
  · rename_i h
    rw [meanL_length]; exact (cellsV_len h).2
  · simp
noncomputable def depsOfL (gs : List Nd) (xs : List Int) : List (List Int) := if cellsV gs xs = true then depsL gs xs else []
theorem depsOfL_no {gs : List Nd} {xs : List Int} (h : cellsV gs xs = false) : depsOfL gs xs = [] := by simp [depsOfL, h]
theorem depsOfL_yes {gs : List Nd} {xs : List Int} (h : cellsV gs xs = true) : depsOfL gs xs = depsL gs xs := by simp [depsOfL, h]
/-- what changes -/
noncomputable def diffOfL (gs : List Nd) (xs ys : List Int) : List Int := if (cellsV gs xs && cellsV gs ys) = true then diffL gs xs ys else []
theorem diffOfL_no {gs : List Nd} {xs ys : List Int} (h : cellsV gs xs = false ∨ cellsV gs ys = false) : diffOfL gs xs ys = [] := by
  rw [diffOfL, if_neg]
  rw [Bool.and_eq_true]
  rintro ⟨h1, h2⟩
  rcases h with h | h
  · rw [h1] at h; cases h
  · rw [h2] at h; cases h
theorem diffOfL_yes {gs : List Nd} {xs ys : List Int} (h : cellsV gs xs = true) (h' : cellsV gs ys = true) : diffOfL gs xs ys = diffL gs xs ys := by simp [diffOfL, h, h']
theorem diffL_length (gs : List Nd) (xs ys : List Int) : (diffL gs xs ys).length ≤ gs.length := whichL_length _ _
theorem diffL_asc (gs : List Nd) (xs ys : List Int) : Asc (diffL gs xs ys) := whichL_asc _ _
theorem diffOfL_ten (gs : List Nd) (xs ys : List Int) : (diffOfL gs xs ys).length ≤ 10 := by
  unfold diffOfL
  split
  · rename_i h
    rw [Bool.and_eq_true] at h
    have := diffL_length gs xs ys
    have := (cellsV_len h.1).2
    omega
  · simp
theorem diffOfL_asc (gs : List Nd) (xs ys : List Int) : Asc (diffOfL gs xs ys) := by
  unfold diffOfL
  split
  · exact diffL_asc _ _ _
  · exact List.Pairwise.nil
/-- set cells -/
noncomputable def setOk (gs : List Nd) (xs : List Int) (n v : Int) : Bool := cellsV gs xs && cellB gs n && inB v 0 999
noncomputable def setL (gs : List Nd) (xs : List Int) (n v : Int) : List Int := if setOk gs xs n v = true then xs.set n.toNat v else []
theorem setL_no {gs : List Nd} {xs : List Int} {n v : Int} (h : setOk gs xs n v = false) : setL gs xs n v = [] := by simp [setL, h]
theorem setL_yes {gs : List Nd} {xs : List Int} {n v : Int} (h : setOk gs xs n v = true) : setL gs xs n v = xs.set n.toNat v := by simp [setL, h]
theorem cellB_iff {gs : List Nd} {n : Int} : cellB gs n = true ↔ (0 ≤ n ∧ n < gs.length) ∧ kindAt gs n = 0 := by
  rw [cellB, Bool.and_eq_true, inB_iff, decide_eq_true_eq]
  constructor
  · rintro ⟨h1, h2⟩; exact ⟨⟨h1.1, by omega⟩, h2⟩
  · rintro ⟨h1, h2⟩; exact ⟨⟨h1.1, by omega⟩, h2⟩
theorem setOk_iff {gs : List Nd} {xs : List Int} {n v : Int} : setOk gs xs n v = true ↔ cellsV gs xs = true ∧ cellB gs n = true ∧ (0 ≤ v ∧ v ≤ 999) := by
  rw [setOk, Bool.and_eq_true, Bool.and_eq_true, inB_iff]
  exact ⟨fun h => ⟨h.1.1, h.1.2, h.2⟩, fun h => ⟨⟨h.1, h.2.1⟩, h.2.2⟩⟩
theorem set_valid {gs : List Nd} {xs : List Int} {n v : Int} (h : setOk gs xs n v = true) : cellsV gs (xs.set n.toNat v) = true := by
  obtain ⟨h1, h2, h3⟩ := setOk_iff.1 h
  obtain ⟨hV, hl, hc⟩ := cellsV_iff.1 h1
  obtain ⟨⟨n0, n1⟩, hk⟩ := cellB_iff.1 h2
  refine cellsV_iff.2 ⟨hV, by rw [List.length_set]; exact hl, fun i hi hg => ?_⟩
  rw [List.length_set] at hi
  rw [List.getElem_set]
  split
  · rename_i e
    refine ⟨h3, fun hne => ?_⟩
    subst e
    rw [show n = ((n.toNat : Nat) : Int) by omega, kindAt_eq hg] at hk
    exact absurd hk hne
  · exact hc i hi hg
theorem set_back {gs : List Nd} {xs : List Int} {n v : Int} (h : setOk gs xs n v = true) (hn : n.toNat < xs.length) : setOk gs (xs.set n.toNat v) n xs[n.toNat] = true ∧ setL gs (xs.set n.toNat v) n xs[n.toNat] = xs := by
  obtain ⟨h1, h2, h3⟩ := setOk_iff.1 h
  have hc := (cellsV_iff.1 h1).2
  have hx := (hc.2 n.toNat hn (by rw [← hc.1]; exact hn)).1
  have hok : setOk gs (xs.set n.toNat v) n xs[n.toNat] = true := setOk_iff.2 ⟨set_valid h, h2, hx⟩
  refine ⟨hok, ?_⟩
  rw [setL_yes hok, List.set_set, List.set_getElem_self]
theorem setL_ten (gs : List Nd) (xs : List Int) (n v : Int) : (setL gs xs n v).length ≤ 10 := by
  unfold setL
  split
  · rename_i h
    have := cellsV_len (setOk_iff.1 h).1
    rw [List.length_set]; omega
  · simp
end SG
