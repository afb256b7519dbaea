/- Plain data: cells set one after the other, far cells, changes and ways, what may run, folded graphs. No program here. -/
import Derived.Test.YtllepoepfkobfaaPlain14
import Derived.Test.YtllepoepfkobfaaPA
namespace SG
set_option linter.unusedSimpArgs false
set_option linter.unusedVariables false
/-- the first k numbers set anew -/
def setsL (xs : List Int) (k : Nat) (f : Nat → Int) : List Int := (List.range xs.length).map fun j => if j < k then f j else at0 xs j
@[simp] theorem setsL_length (xs : List Int) (k : Nat) (f : Nat → Int) : (setsL xs k f).length = xs.length := by simp [setsL]
theorem setsL_get {xs : List Int} {k j : Nat} {f : Nat → Int} (h : j < (setsL xs k f).length) : (setsL xs k f)[j] = if j < k then f j else at0 xs j := by simp [setsL]
theorem setsL_at {xs : List Int} {k j : Nat} {f : Nat → Int} (h : j < xs.length) : at0 (setsL xs k f) j = if j < k then f j else at0 xs j := by
  rw [← at0_eq (by simpa using h), setsL_get]
theorem setsL_zero (xs : List Int) (f : Nat → Int) : setsL xs 0 f = xs := List.ext_getElem (by simp) fun j h1 h2 => by rw [setsL_get, if_neg (by omega), at0_eq h2]
theorem setsL_set {xs : List Int} {k : Nat} {f : Nat → Int} (h : k < xs.length) : (setsL xs k f).set k (f k) = setsL xs (k + 1) f := List.ext_getElem (by simp) fun j h1 h2 => by
  rw [List.getElem_set, setsL_get, setsL_get]
  by_cases e : k = j
  · subst e; simp
  · rw [if_neg e]
    by_cases h3 : j < k
    · rw [if_pos h3, if_pos (by omega)]
    · rw [if_neg h3, if_neg (by omega)]
theorem setsL_skip {xs : List Int} {k : Nat} {f : Nat → Int} (h : f k = at0 xs k) : setsL xs k f = setsL xs (k + 1) f := List.ext_getElem (by simp) fun j h1 h2 => by
  rw [setsL_get, setsL_get]
  by_cases e : j = k
  · subst e; simp [h]
  · by_cases h3 : j < k
    · rw [if_pos h3, if_pos (by omega)]
    · rw [if_neg h3, if_neg (by omega)]
/-- valid cells, told by each -/
theorem cellsV_at {gs : List Nd} {xs : List Int} : cellsV gs xs = true ↔ ValidG gs ∧ xs.length = gs.length ∧ ∀ i, i < gs.length → (0 ≤ at0 xs i ∧ at0 xs i ≤ 999) ∧ (kindAt gs i ≠ 0 → at0 xs i = 0) := by
  rw [cellsV_iff]
  constructor
  · rintro ⟨hV, hl, hc⟩
    refine ⟨hV, hl, fun i hi => ?_⟩
    have := hc i (by omega) hi
    rw [at0_eq] at this
    exact ⟨⟨this.1.1, by have := this.1.2; omega⟩, fun h => this.2 (by rw [kindAt_eq hi] at h; exact h)⟩
  · rintro ⟨hV, hl, hc⟩
    refine ⟨hV, hl, fun i hi hg => ?_⟩
    have := hc i hg
    rw [← at0_eq hi] at this
    exact ⟨⟨this.1.1, by have := this.1.2; omega⟩, fun h => this.2 (by rw [kindAt_eq hg]; exact h)⟩
/-- cells that are far from a node get other values -/
noncomputable def farV (gs : List Nd) (xs : List Int) (n i : Nat) : Int := if kindAt gs i = 0 ∧ (needOfL gs n).contains (i : Int) = false then (at0 xs i + 31) % 1000 else at0 xs i
noncomputable def farL (gs : List Nd) (xs : List Int) (n k : Nat) : List Int := setsL xs k (farV gs xs n)
@[simp] theorem farL_length (gs : List Nd) (xs : List Int) (n k : Nat) : (farL gs xs n k).length = xs.length := setsL_length _ _ _
theorem farL_set {gs : List Nd} {xs : List Int} {n k : Nat} (h : k < xs.length) (hk : kindAt gs k = 0) (hn : (needOfL gs n).contains (k : Int) = false) : (farL gs xs n k).set k ((at0 xs k + 31) % 1000) = farL gs xs n (k + 1) := by
  unfold farL
  rw [← setsL_set h, farV, if_pos ⟨hk, hn⟩]
theorem farL_skip {gs : List Nd} {xs : List Int} {n k : Nat} (h : ¬ (kindAt gs k = 0 ∧ (needOfL gs n).contains (k : Int) = false)) : farL gs xs n k = farL gs xs n (k + 1) := setsL_skip (by rw [farV, if_neg h])
theorem far_valid {gs : List Nd} {xs : List Int} (h : cellsV gs xs = true) (n : Nat) : cellsV gs (farL gs xs n gs.length) = true := by
  obtain ⟨hV, hl, hc⟩ := cellsV_at.1 h
  refine cellsV_at.2 ⟨hV, by simpa using hl, fun i hi => ?_⟩
  unfold farL
  rw [setsL_at (by omega), if_pos hi]
  have hi2 := hc i hi
  unfold farV
  split
  · rename_i h1
    exact ⟨⟨by omega, by omega⟩, fun h2 => absurd h1.1 h2⟩
  · exact hi2
theorem far_mean {gs : List Nd} {xs : List Int} (h : cellsV gs xs = true) {n : Nat} (hn : n < gs.length) : mean gs (farL gs xs n gs.length) n = mean gs xs n := by
  obtain ⟨hV, hl, hc⟩ := cellsV_at.1 h
  refine mean_far hV n hn fun c hcl hk hr => ?_
  unfold farL
  rw [setsL_at (by omega), if_pos hcl, farV, if_neg]
  rintro ⟨_, hno⟩
  have : (needOfL gs n).contains (c : Int) = true := by
    rw [needOfL, onlyL_contains (validG_iff.2 hV) (by omega) (by omega) hcl, Int.toNat_natCast]; exact hr
  rw [this] at hno
  cases hno
/-- what changed is reached from a cell that changed -/
noncomputable def metOf (gs : List Nd) (xs ys : List Int) (x : Int) (t : Nat) : Bool := (List.range t).any fun j => decide (kindAt gs j = 0) && (decide (at0 xs j ≠ at0 ys j) && (reachOfL gs j).contains x)
theorem metOf_zero (gs : List Nd) (xs ys : List Int) (x : Int) : metOf gs xs ys x 0 = false := rfl
theorem metOf_succ (gs : List Nd) (xs ys : List Int) (x : Int) (t : Nat) : metOf gs xs ys x (t + 1) = (metOf gs xs ys x t || (decide (kindAt gs t = 0) && (decide (at0 xs t ≠ at0 ys t) && (reachOfL gs t).contains x))) := by
  simp [metOf, List.range_succ, List.any_append]
theorem metOf_stay {gs : List Nd} {xs ys : List Int} {x : Int} {t : Nat} (h : metOf gs xs ys x t = true) : metOf gs xs ys x (t + 1) = true := by rw [metOf_succ, h]; rfl
theorem metOf_full {gs : List Nd} {xs ys : List Int} (h : cellsV gs xs = true) {x : Int} (hx : x ∈ diffL gs xs ys) : metOf gs xs ys x gs.length = true := by
  obtain ⟨⟨h0, h1⟩, hne⟩ := diffL_mem.1 hx
  have hV := (cellsV_iff.1 h).1
  obtain ⟨c, hc, hk, hd, hr⟩ := mean_changed hV (by omega) hne
  unfold metOf
  rw [List.any_eq_true]
  refine ⟨c, List.mem_range.2 hc, ?_⟩
  rw [reachOfL, show x = ((x.toNat : Nat) : Int) by omega, onlyL_contains (validG_iff.2 hV) (by omega) (by omega) (by omega), Int.toNat_natCast]
  rw [kindAt_eq hc, hk, hr]
  simp [hd]
/-- what may run: the reference filters what is reached -/
theorem whichL_filter (n : Nat) (p : Nat → Bool) (q : Int → Bool) : (whichL n p).filter q = whichL n fun i => q i && p i := by
  unfold whichL
  rw [List.filter_map, List.filter_filter]
  rfl
theorem mayRun_filter (gs : List Nd) (ns : List Int) : (whichL gs.length (fromB gs ns)).filter (fun k => !decide (kindAt gs k = 0)) = whichL gs.length (mayB gs ns) := by
  rw [whichL_filter]; rfl
noncomputable def reachAll (gs : List Nd) (ns : List Int) (t : Nat) : List Int := (ns.take t).flatMap (reachOfL gs)
theorem reachAll_zero (gs : List Nd) (ns : List Int) : reachAll gs ns 0 = [] := by simp [reachAll]
theorem reachAll_succ (gs : List Nd) (ns : List Int) {t : Nat} (h : t < ns.length) : reachAll gs ns t ++ reachOfL gs ns[t] = reachAll gs ns (t + 1) := by
  unfold reachAll
  rw [List.take_succ_eq_append_getElem h, List.flatMap_append]; simp
theorem reachAll_length (gs : List Nd) (ns : List Int) (t : Nat) : (reachAll gs ns t).length ≤ 10 * t := by
  induction t with
  | zero => simp [reachAll]
  | succ t ih =>
    by_cases h : t < ns.length
    · rw [← reachAll_succ gs ns h, List.length_append]
      have := reachOfL_ten gs ns[t]
      omega
    · have : reachAll gs ns (t + 1) = reachAll gs ns t := by unfold reachAll; rw [List.take_of_length_le (by omega), List.take_of_length_le (by omega)]
      rw [this]; omega
theorem reachAll_full {gs : List Nd} {ns : List Int} (h : validG gs = true) (hw : wrB gs ns = true) {i : Nat} (hi : i < gs.length) : (reachAll gs ns ns.length).contains (i : Int) = fromB gs ns i := by
  rw [Bool.eq_iff_iff, List.contains_iff_mem]
  unfold reachAll fromB
  rw [List.take_length, List.mem_flatMap, List.any_eq_true]
  constructor
  · rintro ⟨n, hn, hx⟩
    have hl := onlyL_low hx
    refine ⟨n, hn, ?_⟩
    rw [Int.toNat_natCast] at hl
    exact hl.2.2
  · rintro ⟨n, hn, hr⟩
    have hw1 := wr_low hw n hn
    exact ⟨n, hn, (onlyL_mem h hw1.1.1 (by omega)).2 ⟨i, hi, hr, rfl⟩⟩
theorem mayRun_is {gs : List Nd} {ns : List Int} (h : validG gs = true) (hw : wrB gs ns = true) {i : Nat} (hi : i < gs.length) : (mayRunL gs ns).contains (i : Int) = ((reachAll gs ns ns.length).contains (i : Int) && !decide (kindAt gs i = 0)) := by
  rw [mayRunL_yes h hw, whichL_contains, decide_eq_true hi, Bool.true_and, reachAll_full h hw hi, mayB, Bool.and_comm]
theorem mayRunL_some {gs : List Nd} {ns : List Int} (h : mayRunL gs ns ≠ []) : validG gs = true ∧ wrB gs ns = true := by
  unfold mayRunL at h
  split at h
  · rename_i h1
    rw [Bool.and_eq_true] at h1
    exact h1
  · exact absurd rfl h
/-- nodes that a node reads lie ahead, and the node is one of their users -/
theorem dep_users {gs : List Nd} {xs : List Int} (h : cellsV gs xs = true) {i : Nat} (hi : i < gs.length) {n : Int} (hn : n ∈ depAt gs xs i) : 0 ≤ n ∧ n < i ∧ (usersL gs n).contains (i : Int) = true := by
  have hV := (cellsV_iff.1 h).1
  have hm := depAt_may hV n hn
  have hl := mayAt_lt hV hm
  refine ⟨hl.1, hl.2.1, ?_⟩
  rw [users_may (validG_iff.2 hV) hl.1 (by omega) hi, validG_may hV hi, List.contains_iff_mem]
  exact hm
/-- folded graphs -/
noncomputable def folN (n : Nd) : Nd := if n.kind = 0 then n else ⟨n.kind, folF n.parts⟩
noncomputable def folG (gs : List Nd) : List Nd := if validG gs = true then gs.map folN else []
theorem folG_no {gs : List Nd} (h : validG gs = false) : folG gs = [] := by simp [folG, h]
theorem folG_yes {gs : List Nd} (h : validG gs = true) : folG gs = gs.map folN := by simp [folG, h]
theorem folN_kind (n : Nd) : (folN n).kind = n.kind := by unfold folN; split <;> rfl
theorem folF_may {ps : List Part} (h : ValidP ps) : ∀ n ∈ mayL (folF ps), n ∈ mayL ps := fun n hn => by
  obtain ⟨h1, p, hp, hk, e⟩ := mem_mayL.1 hn
  obtain ⟨q, hq, hqk, hqe⟩ := (folF_folded h).reads p hp hk
  exact mem_mayL.2 ⟨h1, q, hq, hqk, hqe.trans e⟩
theorem folN_at (gs : List Nd) (k : Int) : kindAt (gs.map folN) k = kindAt gs k := by
  unfold kindAt
  rw [List.getElem?_map]
  cases gs[k.toNat]? with
  | none => rfl
  | some n => exact folN_kind n
theorem folN_cell {n : Nd} (h : n.kind = 0) : folN n = n := by rw [folN, if_pos h]
theorem folN_der {n : Nd} (h : n.kind ≠ 0) : folN n = ⟨n.kind, folF n.parts⟩ := by rw [folN, if_neg h]
theorem folG_valid {gs : List Nd} (hV : ValidG gs) : ValidG (gs.map folN) := by
  refine ⟨by rw [List.length_map]; exact hV.1, fun i hi => ?_⟩
  rw [List.length_map] at hi
  rw [List.getElem_map]
  by_cases hk : gs[i].kind = 0
  · rw [folN_cell hk]
    rcases hV.2 i hi with h | h
    · exact .inl h
    · rcases h.1 with h | h
      · rw [hk] at h; cases h
      · rw [hk] at h; cases h
  · have hg := goodNd_der hV hi hk
    rw [folN_der hk]
    refine .inr ⟨hg.1, folF_valid hg.2.1, fun k hk' => ?_⟩
    rw [folN_at]
    exact hg.2.2 k (folF_may hg.2.1 k hk')
theorem folG_mean {gs : List Nd} (hV : ValidG gs) (xs : List Int) : ∀ i, i < gs.length → mean (gs.map folN) xs i = mean gs xs i := by
  intro i
  induction i using Nat.strongRecOn with
  | _ i ih =>
    intro hi
    have hi2 : i < (gs.map folN).length := by simpa using hi
    by_cases hk : gs[i].kind = 0
    · rw [mean_last hi2, mean_last hi, List.getElem_map, folN_kind, if_pos hk, if_pos hk]
    · have hg := goodNd_der hV hi hk
      rw [← mean_eq hV hi hk (v := valF (meanUp (gs.map folN) xs i)), mean_last hi2, List.getElem_map, folN_kind, if_neg hk, folN_der hk]
      · unfold valL
        rw [folF_eval hg.2.1]
      · intro k hk2
        show at0 (meanUp (gs.map folN) xs i) (Int.toNat _) = _
        rw [Int.toNat_natCast, meanUp_get hk2]
        exact ih k hk2 (by omega)
theorem folG_meanL {gs : List Nd} (hV : ValidG gs) (xs : List Int) : meanL (gs.map folN) xs = meanL gs xs := List.ext_getElem (by simp) fun i h1 h2 => by
  rw [meanL_get, meanL_get]
  exact folG_mean hV xs i (by simpa using h2)
theorem folG_dep {gs : List Nd} (hV : ValidG gs) (xs : List Int) {i : Nat} (hi : i < gs.length) : depAt (gs.map folN) xs i = depAt gs xs i := by
  have hi2 : i < (gs.map folN).length := by simpa using hi
  by_cases hk : gs[i].kind = 0
  · rw [depAt_cell hi hk, depAt_cell hi2 (by rw [List.getElem_map, folN_kind]; exact hk)]
  · have hg := goodNd_der hV hi hk
    rw [depAt_der hi hk, depAt_der hi2 (by rw [List.getElem_map, folN_kind]; exact hk), List.getElem_map, folN_der hk, folG_meanL hV]
    unfold readL
    rw [folF_eval hg.2.1]
theorem folG_depsL {gs : List Nd} (hV : ValidG gs) (xs : List Int) : depsL (gs.map folN) xs = depsL gs xs := List.ext_getElem (by simp) fun i h1 h2 => by
  rw [depsL_get, depsL_get]
  exact folG_dep hV xs (by simpa using h2)
theorem folG_cells {gs : List Nd} {xs : List Int} (h : cellsV gs xs = true) : cellsV (gs.map folN) xs = true := by
  obtain ⟨hV, hl, hc⟩ := cellsV_at.1 h
  refine cellsV_at.2 ⟨folG_valid hV, by simpa using hl, fun i hi => ?_⟩
  rw [folN_at]
  exact hc i (by simpa using hi)
theorem folG_again {gs : List Nd} (hV : ValidG gs) : folG (gs.map folN) = gs.map folN := by
  rw [folG_yes (validG_iff.2 (folG_valid hV)), List.map_map]
  refine List.map_congr_left fun n hn => ?_
  obtain ⟨i, hi, rfl⟩ := List.mem_iff_getElem.1 hn
  show folN (folN _) = _
  by_cases hk : gs[i].kind = 0
  · rw [folN_cell hk, folN_cell hk]
  · rw [folN_der hk, folN_der (by exact hk), folF_again (goodNd_der hV hi hk).2.1]
/-- all cells are k -/
def evenV (gs : List Nd) (k : Int) (i : Nat) : Int := if kindAt gs i = 0 then k else 0
def evenL (gs : List Nd) (k : Int) (t : Nat) : List Int := upL gs.length t (evenV gs k) 0
@[simp] theorem evenL_length (gs : List Nd) (k : Int) (t : Nat) : (evenL gs k t).length = gs.length := by simp [evenL]
theorem evenL_zero (gs : List Nd) (k : Int) : List.replicate gs.length 0 = evenL gs k 0 := (upL_zero _ _ _).symm
theorem evenL_set {gs : List Nd} {k : Int} {t : Nat} (h : t < gs.length) (hk : kindAt gs t = 0) : (evenL gs k t).set t k = evenL gs k (t + 1) := by
  have := upL_set (f := evenV gs k) (z := 0) h
  rw [evenV, if_pos hk] at this
  exact this
theorem evenL_skip {gs : List Nd} {k : Int} {t : Nat} (h : t < gs.length) (hk : kindAt gs t ≠ 0) : evenL gs k t = evenL gs k (t + 1) := by
  have := upL_set (f := evenV gs k) (z := 0) h
  rw [evenV, if_neg hk, upL_set0 h] at this
  exact this
theorem even_valid {gs : List Nd} (hV : ValidG gs) {k : Int} (h0 : 0 ≤ k) (h1 : k ≤ 999) : cellsV gs (evenL gs k gs.length) = true := by
  refine cellsV_at.2 ⟨hV, by simp, fun i hi => ?_⟩
  have e : at0 (evenL gs k gs.length) i = evenV gs k i := by
    rw [← at0_eq (by simpa using hi)]
    unfold evenL
    rw [upL_get, if_pos hi]
  rw [e, evenV]
  split
  · exact ⟨⟨h0, h1⟩, fun h => absurd ‹_› h⟩
  · exact ⟨⟨by omega, by omega⟩, fun _ => rfl⟩
/-- the numbers of a list for which something holds, up to k -/
def filtL (xs : List Int) (q : Int → Bool) (k : Nat) : List Int := (xs.take k).filter q
theorem filtL_zero (xs : List Int) (q : Int → Bool) : filtL xs q 0 = [] := by simp [filtL]
theorem filtL_yes {xs : List Int} {q : Int → Bool} {k : Nat} (h : k < xs.length) (hq : q xs[k] = true) : filtL xs q k ++ [xs[k]] = filtL xs q (k + 1) := by
  unfold filtL
  rw [List.take_succ_eq_append_getElem h, List.filter_append]; simp [hq]
theorem filtL_no {xs : List Int} {q : Int → Bool} {k : Nat} (h : k < xs.length) (hq : q xs[k] = false) : filtL xs q k = filtL xs q (k + 1) := by
  unfold filtL
  rw [List.take_succ_eq_append_getElem h, List.filter_append]; simp [hq]
theorem filtL_full (xs : List Int) (q : Int → Bool) : filtL xs q xs.length = xs.filter q := by simp [filtL]
theorem filtL_length (xs : List Int) (q : Int → Bool) (k : Nat) : (filtL xs q k).length ≤ xs.length := by
  unfold filtL
  have h1 := List.length_filter_le q (xs.take k)
  have h2 : (xs.take k).length ≤ xs.length := by rw [List.length_take]; omega
  omega
/-- different cells, one by one -/
theorem wrB_no1 {gs : List Nd} {ns : List Int} {i : Nat} (h : i < ns.length) (hc : cellB gs ns[i] = false) : wrB gs ns = false := by
  cases hw : wrB gs ns with
  | false => rfl
  | true => rw [(wrB_iff.1 hw).1 _ (List.getElem_mem h)] at hc; cases hc
theorem wrB_no2 {gs : List Nd} {ns : List Int} {i : Nat} (h : i < ns.length) (hc : (ns.take i).contains ns[i] = true) : wrB gs ns = false := by
  cases hw : wrB gs ns with
  | false => rfl
  | true =>
    have hnd := (wrB_iff.1 hw).2
    obtain ⟨j, hj, e⟩ := List.mem_iff_getElem.1 (List.contains_iff_mem.1 hc)
    rw [List.length_take] at hj
    rw [List.getElem_take] at e
    have := List.pairwise_iff_getElem.1 hnd j i (by omega) h (by omega)
    exact absurd e this
theorem wrB_up {gs : List Nd} {ns : List Int} (h : ∀ j (hj : j < ns.length), cellB gs ns[j] = true ∧ (ns.take j).contains ns[j] = false) : wrB gs ns = true := by
  refine wrB_iff.2 ⟨fun n hn => ?_, List.pairwise_iff_getElem.2 fun i j hi hj hij e => ?_⟩
  · obtain ⟨j, hj, rfl⟩ := List.mem_iff_getElem.1 hn
    exact (h j hj).1
  · have h1 := (h j hj).2
    rw [← e] at h1
    have h2 : (ns.take j).contains ns[i] = true := List.contains_iff_mem.2 (List.mem_iff_getElem.2 ⟨i, by rw [List.length_take]; omega, by rw [List.getElem_take]⟩)
    rw [h2] at h1
    cases h1
theorem farL_zero (gs : List Nd) (xs : List Int) (n : Nat) : farL gs xs n 0 = xs := setsL_zero _ _
theorem depsOfL_some {gs : List Nd} {xs : List Int} (h : depsOfL gs xs ≠ []) : cellsV gs xs = true := by
  unfold depsOfL at h
  split at h
  · assumption
  · exact absurd rfl h
theorem depsOfL_small {gs : List Nd} {xs : List Int} : (depsOfL gs xs).length ≤ 10 ∧ ∀ l ∈ depsOfL gs xs, l.length ≤ 10 := by
  cases h : cellsV gs xs with
  | false => rw [depsOfL_no h]; simp
  | true =>
    have hV := (cellsV_iff.1 h).1
    rw [depsOfL_yes h]
    refine ⟨by rw [depsL_length]; exact hV.1, fun l hl => ?_⟩
    obtain ⟨i, hi, rfl⟩ := List.mem_iff_getElem.1 hl
    rw [depsL_get]
    exact depAt_length hV
theorem must_kind {gs : List Nd} {xs ys : List Int} (h : cellsV gs xs = true) (h' : cellsV gs ys = true) {k : Nat} (hk : k < (diffL gs xs ys).length) (hne : kindAt gs (diffL gs xs ys)[k] ≠ 0) : (mustL gs xs ys).contains (diffL gs xs ys)[k] = true :=
  List.contains_iff_mem.2 (must_has h h' (List.getElem_mem hk) hne)
theorem diffL_at {gs : List Nd} {xs ys : List Int} {k : Nat} (hk : k < (diffL gs xs ys).length) : 0 ≤ (diffL gs xs ys)[k] ∧ (diffL gs xs ys)[k] < gs.length := (diffL_mem.1 (List.getElem_mem hk)).1
end SG
