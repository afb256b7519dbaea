/- Plain data: what the nodes of a graph mean. No program here. -/
import Derived.Test.YtpkooglnapjcnaaPlain7
import Derived.Test.YtpkooglnapjcnaaPlain8
namespace SG
set_option linter.unusedSimpArgs false
set_option linter.unusedVariables false
def meanUp (gs : List Nd) (xs : List Int) : Nat → List Int
  | 0 => []
  | k + 1 => meanUp gs xs k ++ [match gs[k]? with
    | none => 0
    | some n => if n.kind = 0 then at0 xs k else valL n.parts (valF (meanUp gs xs k))]
@[simp] theorem meanUp_length (gs : List Nd) (xs : List Int) (k : Nat) : (meanUp gs xs k).length = k := by
  induction k with
  | zero => rfl
  | succ k ih => simp [meanUp, ih]
theorem meanUp_at {gs : List Nd} {xs : List Int} {j : Nat} : ∀ {k : Nat}, j < k → at0 (meanUp gs xs k) j = at0 (meanUp gs xs (j + 1)) j := by
  intro k
  induction k with
  | zero => intro h; omega
  | succ k ih =>
    intro h
    by_cases e : j = k
    · subst e; rfl
    · show at0 (meanUp gs xs k ++ _) j = _
      rw [at0_append_left (by simp; omega)]
      exact ih (by omega)
/-- the value of a node -/
def mean (gs : List Nd) (xs : List Int) (i : Nat) : Int := at0 (meanUp gs xs (i + 1)) i
theorem meanUp_get {gs : List Nd} {xs : List Int} {j k : Nat} (h : j < k) : at0 (meanUp gs xs k) j = mean gs xs j := meanUp_at h
theorem mean_last {gs : List Nd} {xs : List Int} {i : Nat} (hi : i < gs.length) : mean gs xs i = if gs[i].kind = 0 then at0 xs i else valL gs[i].parts (valF (meanUp gs xs i)) := by
  have := at0_append_last (xs := meanUp gs xs i) (y := match gs[i]? with
    | none => 0
    | some n => if n.kind = 0 then at0 xs i else valL n.parts (valF (meanUp gs xs i)))
  rw [meanUp_length] at this
  rw [List.getElem?_eq_getElem hi] at this
  have h2 : mean gs xs i = at0 (meanUp gs xs (i + 1)) i := rfl
  rw [h2]
  show at0 (meanUp gs xs i ++ [match gs[i]? with
    | none => 0
    | some n => if n.kind = 0 then at0 xs i else valL n.parts (valF (meanUp gs xs i))]) i = _
  rw [List.getElem?_eq_getElem hi]
  exact this
theorem goodNd_der {gs : List Nd} (hV : ValidG gs) {i : Nat} (hi : i < gs.length) (hk : gs[i].kind ≠ 0) : (gs[i].kind = 1 ∨ gs[i].kind = 2) ∧ ValidP gs[i].parts ∧ ReadsOk gs i gs[i].parts := by
  rcases hV.2 i hi with ⟨h, _⟩ | h
  · exact absurd h hk
  · exact h
/-- values of a formula's nodes, told by two lists -/
theorem evL_same {gs : List Nd} (hV : ValidG gs) {i : Nat} (hi : i < gs.length) (hk : gs[i].kind ≠ 0) {v v' : Int → Int} (h : ∀ k ∈ mayAt gs i, v' k = v k) : evL gs[i].parts v' (gs[i].parts.length - 1) = evL gs[i].parts v (gs[i].parts.length - 1) := by
  have hg := (goodNd_der hV hi hk).2
  have hp := hg.1.1
  refine evL_congr hg.1.2.2.1 _ (by omega) fun n hn => h n ?_
  obtain ⟨p, hp', hk', e⟩ := evL_sub hg.1.2.2.1 (gs[i].parts.length - 1) (by omega) n hn
  rw [mayAt_eq hi, ← e]
  have := hg.1.fit p hp' hk'
  exact mem_mayL.2 ⟨this, p, hp', hk', rfl⟩
theorem mean_eq {gs : List Nd} (hV : ValidG gs) {xs : List Int} {i : Nat} (hi : i < gs.length) (hk : gs[i].kind ≠ 0) {v : Int → Int} (h : ∀ k, k < i → v k = mean gs xs k) : valL gs[i].parts v = mean gs xs i := by
  rw [mean_last hi, if_neg hk]
  unfold valL
  rw [evL_same hV hi hk (v := valF (meanUp gs xs i)) (v' := v)]
  intro k hk'
  have h1 := mayAt_lt hV hk'
  have h2 := h k.toNat (by omega)
  rw [show ((k.toNat : Nat) : Int) = k by omega] at h2
  rw [h2]
  exact (meanUp_get (by omega)).symm
theorem mean_in {gs : List Nd} (hV : ValidG gs) {xs : List Int} (hx : CellsOk gs xs) : ∀ (i : Nat), i < gs.length → InMod (mean gs xs i) := by
  intro i
  induction i using Nat.strongRecOn with
  | _ i ih =>
    intro hi
    rw [mean_last hi]
    split
    · have hil : i < xs.length := by rw [hx.1]; exact hi
      have := (hx.2 i hil hi).1
      rw [at0_eq] at this
      exact this
    · rename_i hk
      have hg := (goodNd_der hV hi hk).2
      have hp := hg.1.1
      refine evL_in hg.1.2.2.1 (fun p hp' hk' => ?_) _ (by omega)
      have h1 := hg.1.fit p hp' hk'
      have h2 := hg.2 _ (mem_mayL.2 ⟨h1, p, hp', hk', rfl⟩)
      show InMod (at0 (meanUp gs xs i) p.n.toNat)
      rw [meanUp_get (by omega)]
      exact ih p.n.toNat (by omega) (by omega)
/-- the values of all nodes -/
def meanL (gs : List Nd) (xs : List Int) : List Int := meanUp gs xs gs.length
@[simp] theorem meanL_length (gs : List Nd) (xs : List Int) : (meanL gs xs).length = gs.length := by simp [meanL]
theorem meanL_at {gs : List Nd} {xs : List Int} {i : Nat} (h : i < gs.length) : at0 (meanL gs xs) i = mean gs xs i := meanUp_get h
theorem meanL_get {gs : List Nd} {xs : List Int} {i : Nat} (h : i < (meanL gs xs).length) : (meanL gs xs)[i] = mean gs xs i := by rw [at0_eq]; exact meanL_at (by simpa using h)
theorem mean_fit {gs : List Nd} (hV : ValidG gs) {xs : List Int} (hx : CellsOk gs xs) {i : Nat} (hi : i < gs.length) (hk : gs[i].kind ≠ 0) : fitV gs[i].parts (meanL gs xs) = true := by
  have hg := (goodNd_der hV hi hk).2
  refine fitV_iff.2 ⟨hg.1, by rw [meanL_length]; exact hV.1, fun v hv => ?_, fun k hk' => by rw [meanL_length]; have := hg.2 k hk'; omega⟩
  obtain ⟨j, hj, rfl⟩ := List.mem_iff_getElem.1 hv
  rw [meanL_get]
  exact mean_in hV hx j (by simpa using hj)
theorem mean_fitUp {gs : List Nd} (hV : ValidG gs) {xs : List Int} (hx : CellsOk gs xs) {i : Nat} (hi : i < gs.length) (hk : gs[i].kind ≠ 0) : FitV gs[i].parts (meanUp gs xs i) := by
  have hg := (goodNd_der hV hi hk).2
  have h10 := hV.1
  refine ⟨hg.1, by rw [meanUp_length]; omega, fun v hv => ?_, fun k hk' => by rw [meanUp_length]; have := hg.2 k hk'; omega⟩
  obtain ⟨j, hj, rfl⟩ := List.mem_iff_getElem.1 hv
  rw [meanUp_length] at hj
  rw [at0_eq, meanUp_get hj]
  exact mean_in hV hx j (by omega)
theorem mean_val {gs : List Nd} (hV : ValidG gs) {xs : List Int} {i : Nat} (hi : i < gs.length) (hk : gs[i].kind ≠ 0) : valL gs[i].parts (valF (meanL gs xs)) = mean gs xs i :=
  mean_eq hV hi hk fun k hk' => by show at0 (meanL gs xs) (Int.toNat _) = _; rw [Int.toNat_natCast]; exact meanL_at (by omega)
/-- the nodes that a node reads -/
def depAt (gs : List Nd) (xs : List Int) (i : Nat) : List Int := match gs[i]? with
  | none => []
  | some n => if n.kind = 0 then [] else readL n.parts (valF (meanL gs xs))
theorem depAt_cell {gs : List Nd} {xs : List Int} {i : Nat} (hi : i < gs.length) (hk : gs[i].kind = 0) : depAt gs xs i = [] := by simp [depAt, hi, hk]
theorem depAt_der {gs : List Nd} {xs : List Int} {i : Nat} (hi : i < gs.length) (hk : gs[i].kind ≠ 0) : depAt gs xs i = readL gs[i].parts (valF (meanL gs xs)) := by simp [depAt, hi, hk]
theorem depAt_run {gs : List Nd} (hV : ValidG gs) {xs : List Int} {i : Nat} (hi : i < gs.length) (hk : gs[i].kind ≠ 0) {v : Int → Int} (h : ∀ k, k < i → v k = mean gs xs k) : readL gs[i].parts v = depAt gs xs i := by
  rw [depAt_der hi hk]
  unfold readL
  rw [evL_same hV hi hk (v := valF (meanL gs xs)) (v' := v)]
  intro k hk'
  have h1 := mayAt_lt hV hk'
  have h2 := h k.toNat (by omega)
  rw [show ((k.toNat : Nat) : Int) = k by omega] at h2
  rw [h2]
  exact (meanL_at (by omega)).symm
theorem depAt_may {gs : List Nd} (hV : ValidG gs) {xs : List Int} {i : Nat} : ∀ k ∈ depAt gs xs i, k ∈ mayAt gs i := by
  intro k hk
  by_cases hi : i < gs.length
  · by_cases h0 : gs[i].kind = 0
    · rw [depAt_cell hi h0] at hk; simp at hk
    · rw [depAt_der hi h0] at hk
      rw [mayAt_eq hi]
      exact readL_may (goodNd_der hV hi h0).2.1 _ hk
  · simp [depAt, List.getElem?_eq_none (show gs.length ≤ i by omega)] at hk
theorem depAt_length {gs : List Nd} (hV : ValidG gs) {xs : List Int} {i : Nat} : (depAt gs xs i).length ≤ 10 := by
  by_cases hi : i < gs.length
  · by_cases h0 : gs[i].kind = 0
    · rw [depAt_cell hi h0]; simp
    · rw [depAt_der hi h0]; exact readL_length (goodNd_der hV hi h0).2.1 _
  · simp [depAt, List.getElem?_eq_none (show gs.length ≤ i by omega)]
/-- far cells do not matter -/
theorem mean_far {gs : List Nd} (hV : ValidG gs) {xs ys : List Int} : ∀ (i : Nat), i < gs.length → (∀ c (hc : c < gs.length), gs[c].kind = 0 → reachB gs c i = true → at0 xs c = at0 ys c) → mean gs xs i = mean gs ys i := by
  intro i
  induction i using Nat.strongRecOn with
  | _ i ih =>
    intro hi h
    by_cases hk : gs[i].kind = 0
    · rw [mean_last hi, mean_last hi, if_pos hk, if_pos hk]
      exact h i hi hk (reach_self gs i)
    · rw [mean_last hi, mean_last hi, if_neg hk, if_neg hk]
      unfold valL
      rw [evL_same hV hi hk]
      intro k hk'
      have h1 := mayAt_lt hV hk'
      show at0 (meanUp gs xs i) k.toNat = at0 (meanUp gs ys i) k.toNat
      rw [meanUp_get (by omega), meanUp_get (by omega)]
      exact ih k.toNat (by omega) (by omega) fun c hc h0 hr => h c hc h0 (reach_step hV hk' hr)
theorem mean_changed {gs : List Nd} (hV : ValidG gs) {xs ys : List Int} {i : Nat} (hi : i < gs.length) (h : mean gs xs i ≠ mean gs ys i) : ∃ c, ∃ hc : c < gs.length, gs[c].kind = 0 ∧ at0 xs c ≠ at0 ys c ∧ reachB gs c i = true := by
  refine Classical.byContradiction fun hno => h (mean_far hV i hi fun c hc h0 hr => ?_)
  exact Classical.byContradiction fun hne => hno ⟨c, hc, h0, hne, hr⟩
/-- the nodes that changed -/
def diffL (gs : List Nd) (xs ys : List Int) : List Int := whichL gs.length fun i => decide (mean gs xs i ≠ mean gs ys i)
theorem diffL_swap (gs : List Nd) (xs ys : List Int) : diffL gs xs ys = diffL gs ys xs := whichL_congr fun k _ => by simp [eq_comm]
theorem diffL_same (gs : List Nd) (xs : List Int) : diffL gs xs xs = [] := by simp [diffL, whichL]
end SG
