/- Plain data: renamed and ordered formulas have the same value. No program here. -/
import Derived.Test.YtpkooglnapjcnaaPlain4
namespace SG
set_option linter.unusedSimpArgs false
set_option linter.unusedVariables false
/-! renamed -/
theorem renP_same (to : List Int) (p : Part) : (renP to p).kind = p.kind ∧ (renP to p).a = p.a ∧ (renP to p).b = p.b ∧ (renP to p).c = p.c := by
  unfold renP
  split <;> exact ⟨rfl, rfl, rfl, rfl⟩
theorem renP_n (to : List Int) (p : Part) : (renP to p).n = if p.kind = 1 then at0 to p.n.toNat else p.n := by
  unfold renP
  split <;> rfl
theorem renP_below (to : List Int) (p : Part) : belowL (renP to p) = belowL p := by
  obtain ⟨h1, h2, h3, h4⟩ := renP_same to p
  unfold belowL
  rw [h1, h2, h3, h4]
theorem renP_good {to : List Int} {p : Part} {i : Nat} (h : GoodAt p i) (ht : p.kind = 1 → 0 ≤ at0 to p.n.toNat ∧ at0 to p.n.toNat ≤ 9) : GoodAt (renP to p) i := by
  refine ⟨?_, fun k hk => by rw [renP_below] at hk; exact h.2 k hk⟩
  obtain ⟨h1, h2, h3, h4⟩ := renP_same to p
  have ha := h.1
  unfold aloneB at ha ⊢
  rw [h1, h2, h3, h4, renP_n]
  by_cases hk : p.kind = 1
  · have := ht hk
    simp [hk, inB] at ha ⊢
    exact ⟨⟨⟨this, ha.1.1.2⟩, ha.1.2⟩, ha.2⟩
  · rw [if_neg hk]; exact ha
theorem RenOk.at0 {ps : List Part} {to : List Int} (h : RenOk ps to) {i : Nat} (hi : i < ps.length) (hk : ps[i].kind = 1) : 0 ≤ at0 to ps[i].n.toNat ∧ at0 to ps[i].n.toNat ≤ 9 := by
  have h1 := h.1.reads hi hk
  have h2 := h.2.2.2 i hi hk
  have hl : ps[i].n.toNat < to.length := by omega
  have := h.2.2.1 to[ps[i].n.toNat] (List.getElem_mem hl)
  rwa [at0_eq] at this
theorem flatMap_map' {α β : Type} (f : α → List β) (g : α → α) (xs : List α) (h : ∀ x ∈ xs, f (g x) = f x) : (xs.map g).flatMap f = xs.flatMap f := by
  induction xs with
  | nil => rfl
  | cons x xs ih =>
    simp only [List.map_cons, List.flatMap_cons]
    rw [h x (by simp), ih (fun y hy => h y (List.mem_cons_of_mem _ hy))]
theorem renL_valid {ps : List Part} {to : List Int} (h : RenOk ps to) : ValidP (renL ps to) := by
  rw [renL_ok h]
  refine ⟨by simpa using h.1.1, by simpa using h.1.2.1, fun i hi => ?_, fun j hj => ?_⟩
  · rw [List.getElem_map]
    have hi' : i < ps.length := by simpa using hi
    exact renP_good (h.1.2.2.1 i hi') (fun hk => h.at0 hi' hk)
  · rw [flatMap_map' belowL (renP to) ps (fun p _ => renP_below to p)]
    exact h.1.2.2.2 j (by simpa using hj)
theorem evL_ren {ps : List Part} {to : List Int} (h : RenOk ps to) (vals : Int → Int) : ∀ (i : Nat), i < ps.length →
    evL (renL ps to) vals i = ((evL ps (fun n => vals (at0 to n.toNat)) i).1, (evL ps (fun n => vals (at0 to n.toNat)) i).2.map fun n => at0 to n.toNat) := by
  have hv := h.1.2.2.1
  have hq := (renL_valid h).2.2.1
  rw [renL_ok h] at hq ⊢
  intro i
  induction i using Nat.strongRecOn with
  | _ i ih =>
    intro hi
    have hi' : i < (ps.map (renP to)).length := by simpa using hi
    have hg := hv i hi
    have hg' := hq i hi'
    obtain ⟨e1, e2, e3, e4⟩ := renP_same to ps[i]
    have e0 : (ps.map (renP to))[i] = renP to ps[i] := by rw [List.getElem_map]
    rcases part_cases hv hi with hk | hk | hk | ⟨h0, h1, h8⟩
    · rw [evL_num hi' (by rw [e0, e1, hk]), evL_num hi hk, e0, renP_n, if_neg (by omega)]; rfl
    · rw [evL_read hi' (by rw [e0, e1, hk]), evL_read hi hk, e0, renP_n, if_pos hk]; rfl
    · obtain ⟨_, ha, hb, hc⟩ := good_if hg hk
      have ia := ih ps[i].a.toNat (by omega) (by omega)
      have ib := ih ps[i].b.toNat (by omega) (by omega)
      have ic := ih ps[i].c.toNat (by omega) (by omega)
      by_cases hx : (evL ps (fun n => vals (at0 to n.toNat)) ps[i].a.toNat).1 = 0
      · rw [evL_else hi' hg' (by rw [e0, e1, hk]) (by rw [e0, e2, ia]; exact hx), evL_else hi hg hk hx, e0, e2, e4, ia, ic]
        simp
      · rw [evL_if hi' hg' (by rw [e0, e1, hk]) (by rw [e0, e2, ia]; exact hx), evL_if hi hg hk hx, e0, e2, e3, ia, ib]
        simp
    · obtain ⟨_, _, _, ha, hb⟩ := good_bin hg h0 h1 h8
      have ia := ih ps[i].a.toNat (by omega) (by omega)
      have ib := ih ps[i].b.toNat (by omega) (by omega)
      rw [evL_bin hi' hg' (by rw [e0, e1]; exact h0) (by rw [e0, e1]; exact h1) (by rw [e0, e1]; exact h8), evL_bin hi hg h0 h1 h8, e0, e1, e2, e3, ia, ib]
      simp

/-! in order -/
theorem at_get? {Q T : List Part} {b j : Nat} (hQ : ∀ j (h : j < T.length), Q[b + j]? = some T[j]) (h : j < T.length) : ∃ hq : b + j < Q.length, Q[b + j] = T[j] := by
  have h1 := hQ j h
  obtain ⟨hq, e⟩ := List.getElem?_eq_some_iff.1 h1
  exact ⟨hq, e⟩
structure NodeB (ps : List Part) (f i b : Nat) (TA TB : List Part) (q : Part) : Prop where
  eq : treeL ps (f + 1) i b = TA ++ TB ++ [q]
  ta : treeL ps f (ps[i]?.getD default).a.toNat b = TA
  tb : treeL ps f (ps[i]?.getD default).b.toNat (b + TA.length) = TB
  q : q = ((ps[i]?.getD default).put 1 ((b + TA.length : Nat) - 1 : Int)).put 2 ((b + TA.length + TB.length : Nat) - 1 : Int)
theorem treeL_bin {ps : List Part} {f i b : Nat} (hi : i < ps.length) (hk : 2 ≤ ps[i].kind ∧ ps[i].kind ≤ 7) : ∃ TA TB q, treeL ps (f + 1) i b = TA ++ TB ++ [q] ∧ treeL ps f ps[i].a.toNat b = TA ∧ treeL ps f ps[i].b.toNat (b + TA.length) = TB ∧ q = (ps[i].put 1 ((b + TA.length : Nat) - 1 : Int)).put 2 ((b + TA.length + TB.length : Nat) - 1 : Int) := by
  refine ⟨_, _, _, ?_, rfl, rfl, rfl⟩
  rw [treeL_some hi, belowL_bin hk]
  simp [treeS]
theorem treeL_ite {ps : List Part} {f i b : Nat} (hi : i < ps.length) (hk : ps[i].kind = 8) : ∃ TA TB TC q, treeL ps (f + 1) i b = TA ++ TB ++ TC ++ [q] ∧ treeL ps f ps[i].a.toNat b = TA ∧ treeL ps f ps[i].b.toNat (b + TA.length) = TB ∧ treeL ps f ps[i].c.toNat (b + TA.length + TB.length) = TC ∧ q = ((ps[i].put 1 ((b + TA.length : Nat) - 1 : Int)).put 2 ((b + TA.length + TB.length : Nat) - 1 : Int)).put 3 ((b + TA.length + TB.length + TC.length : Nat) - 1 : Int) := by
  refine ⟨_, _, _, _, ?_, rfl, rfl, rfl, rfl⟩
  rw [treeL_some hi, belowL_if hk]
  simp [treeS]
theorem treeL_leaf {ps : List Part} {f i b : Nat} (hi : i < ps.length) (hk : ps[i].kind = 0 ∨ ps[i].kind = 1) : treeL ps (f + 1) i b = [ps[i]] := by
  rw [treeL_some hi, belowL_leaf hk]
  simp [treeS]
theorem sub_left {Q S T : List Part} {b : Nat} (h : ∀ j (h : j < (S ++ T).length), Q[b + j]? = some (S ++ T)[j]) : ∀ j (h : j < S.length), Q[b + j]? = some S[j] := fun j hj => by
  rw [h j (by simp; omega), List.getElem_append_left hj]
theorem sub_right {Q S T : List Part} {b : Nat} (h : ∀ j (h : j < (S ++ T).length), Q[b + j]? = some (S ++ T)[j]) : ∀ j (h : j < T.length), Q[b + S.length + j]? = some T[j] := fun j hj => by
  have := h (S.length + j) (by simp; omega)
  rw [List.getElem_append_right (by omega)] at this
  rw [show b + S.length + j = b + (S.length + j) by omega, this]
  simp
theorem one_get {Q : List Part} {q : Part} {b : Nat} (h : ∀ j (h : j < [q].length), Q[b + j]? = some [q][j]) : Q[b]? = some q := h 0 (by simp)
theorem tree_eval {ps : List Part} (hv : ∀ i (h : i < ps.length), GoodAt ps[i] i) (vals : Int → Int) (Q : List Part) (hQg : ∀ i (h : i < Q.length), GoodAt Q[i] i) : ∀ (f i b : Nat), i < f → i < ps.length →
    (∀ j (h : j < (treeL ps f i b).length), Q[b + j]? = some (treeL ps f i b)[j]) → 0 < (treeL ps f i b).length ∧ evL Q vals (b + (treeL ps f i b).length - 1) = evL ps vals i := by
  intro f
  induction f with
  | zero => intro i b h; omega
  | succ f ih =>
    intro i b hif hi hQ
    have hg := hv i hi
    rcases good_kind hg with hk | hk | hk | hk
    · rw [treeL_leaf hi (.inl hk)] at hQ ⊢
      obtain ⟨hq, e⟩ := List.getElem?_eq_some_iff.1 (one_get hQ)
      refine ⟨by simp, ?_⟩
      simp only [List.length_singleton, Nat.add_sub_cancel]
      rw [evL_num hq (by rw [e]; exact hk), evL_num hi hk, e]
    · rw [treeL_leaf hi (.inr hk)] at hQ ⊢
      obtain ⟨hq, e⟩ := List.getElem?_eq_some_iff.1 (one_get hQ)
      refine ⟨by simp, ?_⟩
      simp only [List.length_singleton, Nat.add_sub_cancel]
      rw [evL_read hq (by rw [e]; exact hk), evL_read hi hk, e]
    · obtain ⟨_, hc, hn, ha, hb⟩ := good_bin hg (by omega) (by omega) (by omega)
      obtain ⟨TA, TB, q, eT, eA, eB, eq⟩ := treeL_bin (f := f) (b := b) hi hk
      rw [eT] at hQ ⊢
      obtain ⟨pA, vA⟩ := ih ps[i].a.toNat b (by omega) (by omega) (by rw [eA]; exact sub_left (sub_left hQ))
      obtain ⟨pB, vB⟩ := ih ps[i].b.toNat (b + TA.length) (by omega) (by omega) (by rw [eB]; exact sub_right (sub_left hQ))
      rw [eA] at pA vA
      rw [eB] at pB vB
      have hq0 := one_get (sub_right hQ)
      rw [List.length_append, ← Nat.add_assoc] at hq0
      obtain ⟨hq, e⟩ := List.getElem?_eq_some_iff.1 hq0
      have qk : q.kind = ps[i].kind := by rw [eq]; rfl
      have qa : q.a = ((b + TA.length : Nat) - 1 : Int) := by rw [eq]; rfl
      have qb : q.b = ((b + TA.length + TB.length : Nat) - 1 : Int) := by rw [eq]; rfl
      refine ⟨by simp; omega, ?_⟩
      have el : b + (TA ++ TB ++ [q]).length - 1 = b + TA.length + TB.length := by simp; omega
      rw [el, evL_bin hq (hQg _ hq) (by rw [e]; omega) (by rw [e]; omega) (by rw [e]; omega), evL_bin hi hg (by omega) (by omega) (by omega), e, qk, qa, qb]
      rw [show ((b + TA.length : Nat) - 1 : Int).toNat = b + TA.length - 1 by omega, show ((b + TA.length + TB.length : Nat) - 1 : Int).toNat = b + TA.length + TB.length - 1 by omega, vA, vB]
    · obtain ⟨hn, ha, hb, hc⟩ := good_if hg hk
      obtain ⟨TA, TB, TC, q, eT, eA, eB, eC, eq⟩ := treeL_ite (f := f) (b := b) hi hk
      rw [eT] at hQ ⊢
      obtain ⟨pA, vA⟩ := ih ps[i].a.toNat b (by omega) (by omega) (by rw [eA]; exact sub_left (sub_left (sub_left hQ)))
      obtain ⟨pB, vB⟩ := ih ps[i].b.toNat (b + TA.length) (by omega) (by omega) (by rw [eB]; exact sub_right (sub_left (sub_left hQ)))
      obtain ⟨pC, vC⟩ := ih ps[i].c.toNat (b + TA.length + TB.length) (by omega) (by omega) (by
        rw [eC]
        have := sub_right (sub_left hQ)
        rw [List.length_append, ← Nat.add_assoc] at this
        exact this)
      rw [eA] at pA vA
      rw [eB] at pB vB
      rw [eC] at pC vC
      have hq0 := one_get (sub_right hQ)
      rw [List.length_append, List.length_append, ← Nat.add_assoc, ← Nat.add_assoc] at hq0
      obtain ⟨hq, e⟩ := List.getElem?_eq_some_iff.1 hq0
      have qk : q.kind = ps[i].kind := by rw [eq]; rfl
      have qa : q.a = ((b + TA.length : Nat) - 1 : Int) := by rw [eq]; rfl
      have qb : q.b = ((b + TA.length + TB.length : Nat) - 1 : Int) := by rw [eq]; rfl
      have qc : q.c = ((b + TA.length + TB.length + TC.length : Nat) - 1 : Int) := by rw [eq]; rfl
      refine ⟨by simp; omega, ?_⟩
      have el : b + (TA ++ TB ++ TC ++ [q]).length - 1 = b + TA.length + TB.length + TC.length := by simp; omega
      have ta : ((b + TA.length : Nat) - 1 : Int).toNat = b + TA.length - 1 := by omega
      have tb : ((b + TA.length + TB.length : Nat) - 1 : Int).toNat = b + TA.length + TB.length - 1 := by omega
      have tc : ((b + TA.length + TB.length + TC.length : Nat) - 1 : Int).toNat = b + TA.length + TB.length + TC.length - 1 := by omega
      rw [el]
      by_cases hx : (evL ps vals ps[i].a.toNat).1 = 0
      · rw [evL_else hq (hQg _ hq) (by rw [e]; omega) (by rw [e, qa, ta, vA]; exact hx), evL_else hi hg hk hx, e, qa, qc, ta, tc, vA, vC]
      · rw [evL_if hq (hQg _ hq) (by rw [e]; omega) (by rw [e, qa, ta, vA]; exact hx), evL_if hi hg hk hx, e, qa, qb, ta, tb, vA, vB]
theorem put_put_same (p : Part) (a b : Int) : ((p.put 1 a).put 2 b).put 1 a = (p.put 1 a).put 2 b := rfl
theorem tree_again {ps : List Part} (hv : ∀ i (h : i < ps.length), GoodAt ps[i] i) (Q : List Part) : ∀ (f i b : Nat), i < f → i < ps.length →
    (∀ j (h : j < (treeL ps f i b).length), Q[b + j]? = some (treeL ps f i b)[j]) → ∀ f', b + (treeL ps f i b).length - 1 < f' → treeL Q f' (b + (treeL ps f i b).length - 1) b = treeL ps f i b := by
  intro f
  induction f with
  | zero => intro i b h; omega
  | succ f ih =>
    intro i b hif hi hQ f' hf'
    have hg := hv i hi
    obtain ⟨f'', rfl⟩ : ∃ f'', f' = f'' + 1 := ⟨f' - 1, by omega⟩
    rcases good_kind hg with hk | hk | hk | hk
    · rw [treeL_leaf hi (.inl hk)] at hQ ⊢
      obtain ⟨hq, e⟩ := List.getElem?_eq_some_iff.1 (one_get hQ)
      simp only [List.length_singleton, Nat.add_sub_cancel]
      rw [treeL_leaf hq (by rw [e]; exact .inl hk), e]
    · rw [treeL_leaf hi (.inr hk)] at hQ ⊢
      obtain ⟨hq, e⟩ := List.getElem?_eq_some_iff.1 (one_get hQ)
      simp only [List.length_singleton, Nat.add_sub_cancel]
      rw [treeL_leaf hq (by rw [e]; exact .inr hk), e]
    · obtain ⟨_, hc, hn, ha, hb⟩ := good_bin hg (by omega) (by omega) (by omega)
      obtain ⟨TA, TB, q, eT, eA, eB, eq⟩ := treeL_bin (f := f) (b := b) hi hk
      have pA := (treeL_stands hv f ps[i].a.toNat b (by omega) (by omega)).pos
      have pB := (treeL_stands hv f ps[i].b.toNat (b + TA.length) (by omega) (by omega)).pos
      rw [eA] at pA
      rw [eB] at pB
      rw [eT] at hQ hf' ⊢
      have el : b + (TA ++ TB ++ [q]).length - 1 = b + TA.length + TB.length := by simp; omega
      rw [el] at hf' ⊢
      have vA := ih ps[i].a.toNat b (by omega) (by omega) (by rw [eA]; exact sub_left (sub_left hQ)) f'' (by rw [eA]; omega)
      have vB := ih ps[i].b.toNat (b + TA.length) (by omega) (by omega) (by rw [eB]; exact sub_right (sub_left hQ)) f'' (by rw [eB]; omega)
      rw [eA] at vA
      rw [eB] at vB
      have hq0 := one_get (sub_right hQ)
      rw [List.length_append, ← Nat.add_assoc] at hq0
      obtain ⟨hq, e⟩ := List.getElem?_eq_some_iff.1 hq0
      have qk : q.kind = ps[i].kind := by rw [eq]; rfl
      have qa : q.a = ((b + TA.length : Nat) - 1 : Int) := by rw [eq]; rfl
      have qb : q.b = ((b + TA.length + TB.length : Nat) - 1 : Int) := by rw [eq]; rfl
      obtain ⟨TA', TB', q', eT', eA', eB', eq'⟩ := treeL_bin (f := f'') (b := b) hq (by rw [e, qk]; exact hk)
      rw [e, qa, show ((b + TA.length : Nat) - 1 : Int).toNat = b + TA.length - 1 by omega, vA] at eA'
      subst eA'
      rw [e, qb, show ((b + TA.length + TB.length : Nat) - 1 : Int).toNat = b + TA.length + TB.length - 1 by omega, vB] at eB'
      subst eB'
      rw [eT', eq', e, eq]
      rfl
    · obtain ⟨hn, ha, hb, hc⟩ := good_if hg hk
      obtain ⟨TA, TB, TC, q, eT, eA, eB, eC, eq⟩ := treeL_ite (f := f) (b := b) hi hk
      have pA := (treeL_stands hv f ps[i].a.toNat b (by omega) (by omega)).pos
      have pB := (treeL_stands hv f ps[i].b.toNat (b + TA.length) (by omega) (by omega)).pos
      have pC := (treeL_stands hv f ps[i].c.toNat (b + TA.length + TB.length) (by omega) (by omega)).pos
      rw [eA] at pA
      rw [eB] at pB
      rw [eC] at pC
      rw [eT] at hQ hf' ⊢
      have el : b + (TA ++ TB ++ TC ++ [q]).length - 1 = b + TA.length + TB.length + TC.length := by simp; omega
      rw [el] at hf' ⊢
      have vA := ih ps[i].a.toNat b (by omega) (by omega) (by rw [eA]; exact sub_left (sub_left (sub_left hQ))) f'' (by rw [eA]; omega)
      have vB := ih ps[i].b.toNat (b + TA.length) (by omega) (by omega) (by rw [eB]; exact sub_right (sub_left (sub_left hQ))) f'' (by rw [eB]; omega)
      have vC := ih ps[i].c.toNat (b + TA.length + TB.length) (by omega) (by omega) (by
        rw [eC]
        have := sub_right (sub_left hQ)
        rw [List.length_append, ← Nat.add_assoc] at this
        exact this) f'' (by rw [eC]; omega)
      rw [eA] at vA
      rw [eB] at vB
      rw [eC] at vC
      have hq0 := one_get (sub_right hQ)
      rw [List.length_append, List.length_append, ← Nat.add_assoc, ← Nat.add_assoc] at hq0
      obtain ⟨hq, e⟩ := List.getElem?_eq_some_iff.1 hq0
      have qk : q.kind = ps[i].kind := by rw [eq]; rfl
      have qa : q.a = ((b + TA.length : Nat) - 1 : Int) := by rw [eq]; rfl
      have qb : q.b = ((b + TA.length + TB.length : Nat) - 1 : Int) := by rw [eq]; rfl
      have qc : q.c = ((b + TA.length + TB.length + TC.length : Nat) - 1 : Int) := by rw [eq]; rfl
      obtain ⟨TA', TB', TC', q', eT', eA', eB', eC', eq'⟩ := treeL_ite (f := f'') (b := b) hq (by rw [e, qk]; exact hk)
      rw [e, qa, show ((b + TA.length : Nat) - 1 : Int).toNat = b + TA.length - 1 by omega, vA] at eA'
      subst eA'
      rw [e, qb, show ((b + TA.length + TB.length : Nat) - 1 : Int).toNat = b + TA.length + TB.length - 1 by omega, vB] at eB'
      subst eB'
      rw [e, qc, show ((b + TA.length + TB.length + TC.length : Nat) - 1 : Int).toNat = b + TA.length + TB.length + TC.length - 1 by omega, vC] at eC'
      subst eC'
      rw [eT', eq', e, eq]
      rfl
theorem ordL_eval {ps : List Part} (h : ValidP ps) (vals : Int → Int) : evL (ordL ps) vals ((ordL ps).length - 1) = evL ps vals (ps.length - 1) := by
  have h0 := h.1
  have := (tree_eval h.2.2.1 vals (ordL ps) (ordL_valid h).2.2.1 ps.length (ps.length - 1) 0 (by omega) (by omega) (fun j hj => by rw [Nat.zero_add, ordL_tree h, List.getElem?_eq_getElem])).2
  rw [← ordL_tree h, Nat.zero_add] at this
  exact this
theorem ordL_again {ps : List Part} (h : ValidP ps) : ordL (ordL ps) = ordL ps := by
  have h0 := h.1
  have hl := ordL_length h
  have := tree_again h.2.2.1 (ordL ps) ps.length (ps.length - 1) 0 (by omega) (by omega) (fun j hj => by rw [Nat.zero_add, ordL_tree h, List.getElem?_eq_getElem]) (ordL ps).length (by rw [← ordL_tree h]; omega)
  rw [← ordL_tree h, Nat.zero_add] at this
  rw [ordL_tree (ordL_valid h)]
  exact this
end SG
