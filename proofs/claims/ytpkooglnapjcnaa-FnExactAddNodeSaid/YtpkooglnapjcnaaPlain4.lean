/- Plain data: the parts of a formula in order. No program here. -/
import Derived.Test.YtpkooglnapjcnaaPlain3
namespace SG
set_option linter.unusedSimpArgs false
set_option linter.unusedVariables false
def putS (f : Nat → List Part → List Part) : List Int → Nat → Part × List Part → Part × List Part
  | [], _, s => s
  | k :: ks, x, s => putS f ks (x + 1) (s.1.put (x + 1) ((f k.toNat s.2).length - 1 : Int), f k.toNat s.2)
def putL (ps : List Part) : Nat → Nat → List Part → List Part
  | 0, _, out => out
  | f + 1, i, out => match ps[i]? with
    | none => out
    | some p => (putS (putL ps f) (belowL p) 0 (p, out)).2 ++ [(putS (putL ps f) (belowL p) 0 (p, out)).1]
theorem putS_append (f : Nat → List Part → List Part) : ∀ (ks : List Int) (k : Int) (x : Nat) (s : Part × List Part), putS f (ks ++ [k]) x s = ((putS f ks x s).1.put (x + ks.length + 1) ((f k.toNat (putS f ks x s).2).length - 1 : Int), f k.toNat (putS f ks x s).2)
  | [], k, x, s => rfl
  | j :: ks, k, x, s => by
    show putS f (ks ++ [k]) (x + 1) _ = _
    rw [putS_append f ks k (x + 1)]
    simp only [List.length_cons]
    rw [show x + 1 + ks.length + 1 = x + (ks.length + 1) + 1 by omega]
    rfl
theorem putL_some {ps : List Part} {f i : Nat} {out : List Part} (h : i < ps.length) : putL ps (f + 1) i out = (putS (putL ps f) (belowL ps[i]) 0 (ps[i], out)).2 ++ [(putS (putL ps f) (belowL ps[i]) 0 (ps[i], out)).1] := by
  rw [putL, List.getElem?_eq_getElem h]
theorem putS_bound {f : Nat → List Part → List Part} {m : Nat} (hf : ∀ i out, (f i out).length ≤ out.length + m) : ∀ (ks : List Int) (x : Nat) (s : Part × List Part), (putS f ks x s).2.length ≤ s.2.length + ks.length * m
  | [], x, s => by simp [putS]
  | k :: ks, x, s => by
    have h1 := putS_bound hf ks (x + 1) (s.1.put (x + 1) ((f k.toNat s.2).length - 1 : Int), f k.toNat s.2)
    have h2 := hf k.toNat s.2
    show (putS f ks (x + 1) _).2.length ≤ _
    simp only [List.length_cons, Nat.add_mul]
    dsimp only at h1
    omega
theorem putL_bound (ps : List Part) : ∀ (f i : Nat) (out : List Part), (putL ps f i out).length ≤ out.length + 4 ^ f
  | 0, i, out => by simp [putL]
  | f + 1, i, out => by
    rw [putL]
    have e : 4 ^ (f + 1) = 4 * 4 ^ f := by rw [Nat.pow_succ]; omega
    have e1 : 1 ≤ 4 ^ f := Nat.one_le_pow _ _ (by decide)
    split
    · omega
    · rename_i p _
      have h1 := putS_bound (fun j o => putL_bound ps f j o) (belowL p) 0 (p, out)
      have h2 := belowL_short p
      have h3 : (belowL p).length * 4 ^ f ≤ 3 * 4 ^ f := Nat.mul_le_mul_right _ h2
      simp only [List.length_append, List.length_cons, List.length_nil]
      dsimp only at h1
      omega
/-! the parts that are put, by where they begin -/
def treeS (f : Nat → Nat → List Part) : List Int → Nat → Part → Nat → Part × List Part
  | [], _, p, _ => (p, [])
  | k :: ks, x, p, b => ((treeS f ks (x + 1) (p.put (x + 1) ((b + (f k.toNat b).length : Nat) - 1 : Int)) (b + (f k.toNat b).length)).1, f k.toNat b ++ (treeS f ks (x + 1) (p.put (x + 1) ((b + (f k.toNat b).length : Nat) - 1 : Int)) (b + (f k.toNat b).length)).2)
def treeL (ps : List Part) : Nat → Nat → Nat → List Part
  | 0, _, _ => []
  | f + 1, i, b => match ps[i]? with
    | none => []
    | some p => (treeS (treeL ps f) (belowL p) 0 p b).2 ++ [(treeS (treeL ps f) (belowL p) 0 p b).1]
theorem putS_tree {f : Nat → List Part → List Part} {t : Nat → Nat → List Part} (hft : ∀ i out, f i out = out ++ t i out.length) : ∀ (ks : List Int) (x : Nat) (p : Part) (out : List Part), putS f ks x (p, out) = ((treeS t ks x p out.length).1, out ++ (treeS t ks x p out.length).2)
  | [], x, p, out => by simp [putS, treeS]
  | k :: ks, x, p, out => by
    have h1 := putS_tree hft ks (x + 1) (p.put (x + 1) ((f k.toNat out).length - 1 : Int)) (f k.toNat out)
    show putS f ks (x + 1) _ = _
    rw [h1]
    have e : (f k.toNat out).length = out.length + (t k.toNat out.length).length := by rw [hft]; simp
    rw [e]
    conv => lhs; rw [hft k.toNat out]
    simp [treeS]
theorem putL_tree (ps : List Part) : ∀ (f i : Nat) (out : List Part), putL ps f i out = out ++ treeL ps f i out.length
  | 0, i, out => by simp [putL, treeL]
  | f + 1, i, out => by
    rw [putL, treeL]
    split
    · simp
    · rename_i p _
      rw [putS_tree (fun j o => putL_tree ps f j o) (belowL p) 0 p out]
      simp
theorem treeL_some {ps : List Part} {f i b : Nat} (h : i < ps.length) : treeL ps (f + 1) i b = (treeS (treeL ps f) (belowL ps[i]) 0 ps[i] b).2 ++ [(treeS (treeL ps f) (belowL ps[i]) 0 ps[i] b).1] := by
  rw [treeL, List.getElem?_eq_getElem h]
/-- a tree that stands from b on -/
structure Stands (T : List Part) (b : Nat) : Prop where
  pos : 0 < T.length
  good : ∀ j (h : j < T.length), GoodAt T[j] (b + j)
  low : ∀ p ∈ T, ∀ k ∈ belowL p, (b : Int) ≤ k
  count : ∀ k : Nat, (T.flatMap belowL).count (k : Int) = if b ≤ k ∧ k + 1 < b + T.length then 1 else 0
theorem belowL_if {p : Part} (h : p.kind = 8) : belowL p = [p.a, p.b, p.c] := by simp [belowL, h]
theorem belowL_bin {p : Part} (h : 2 ≤ p.kind ∧ p.kind ≤ 7) : belowL p = [p.a, p.b] := by
  have := inB_iff.2 h
  simp [belowL, show p.kind ≠ 8 by omega, this]
theorem belowL_leaf {p : Part} (h : p.kind = 0 ∨ p.kind = 1) : belowL p = [] := by
  rcases h with h | h <;> simp [belowL, h, inB]
theorem good_append {S T : List Part} {b : Nat} (hS : ∀ j (h : j < S.length), GoodAt S[j] (b + j)) (hT : ∀ j (h : j < T.length), GoodAt T[j] (b + S.length + j)) : ∀ j (h : j < (S ++ T).length), GoodAt (S ++ T)[j] (b + j) := by
  intro j h
  by_cases hj : j < S.length
  · rw [List.getElem_append_left hj]; exact hS j hj
  · rw [List.getElem_append_right (by omega)]
    have := hT (j - S.length) (by simp at h; omega)
    rwa [show b + S.length + (j - S.length) = b + j by omega] at this
theorem count_one (x k : Int) : [x].count k = if x = k then 1 else 0 := by simp [List.count_cons]
theorem treeL_stands {ps : List Part} (hv : ∀ i (h : i < ps.length), GoodAt ps[i] i) : ∀ (f i b : Nat), i < f → i < ps.length → Stands (treeL ps f i b) b := by
  intro f
  induction f with
  | zero => intro i b h _; omega
  | succ f ih =>
    intro i b hif hi
    have hg := hv i hi
    rw [treeL_some hi]
    rcases good_kind hg with h | h | h | h
    · have hb := belowL_leaf (.inl h)
      rw [hb]
      simp only [treeS, List.nil_append]
      refine ⟨by simp, fun j hj => ?_, fun p hp k hk => ?_, fun k => ?_⟩
      · simp only [List.length_singleton] at hj
        have : j = 0 := by omega
        subst this
        exact ⟨hg.1, fun k hk => by simp only [List.getElem_singleton] at hk; rw [hb] at hk; cases hk⟩
      · simp only [List.mem_singleton] at hp; subst hp; rw [hb] at hk; cases hk
      · simp [hb]
    · have hb := belowL_leaf (.inr h)
      rw [hb]
      simp only [treeS, List.nil_append]
      refine ⟨by simp, fun j hj => ?_, fun p hp k hk => ?_, fun k => ?_⟩
      · simp only [List.length_singleton] at hj
        have : j = 0 := by omega
        subst this
        exact ⟨hg.1, fun k hk => by simp only [List.getElem_singleton] at hk; rw [hb] at hk; cases hk⟩
      · simp only [List.mem_singleton] at hp; subst hp; rw [hb] at hk; cases hk
      · simp [hb]
    · have hb := belowL_bin h
      obtain ⟨_, hc, hn, ha1, hb1⟩ := good_bin hg (by omega) (by omega) (by omega)
      rw [hb]
      simp only [treeS, List.append_nil]
      have sA := ih ps[i].a.toNat b (by omega) (by omega)
      generalize hA : treeL ps f ps[i].a.toNat b = TA at *
      have sB := ih ps[i].b.toNat (b + TA.length) (by omega) (by omega)
      generalize hB : treeL ps f ps[i].b.toNat (b + TA.length) = TB at *
      generalize hq : (Part.put (Part.put ps[i] (0 + 1) ((b + TA.length : Nat) - 1 : Int)) (0 + 1 + 1) ((b + TA.length + TB.length : Nat) - 1 : Int)) = q
      have qk : q.kind = ps[i].kind := by rw [← hq]; rfl
      have qn : q.n = ps[i].n := by rw [← hq]; rfl
      have qc : q.c = ps[i].c := by rw [← hq]; rfl
      have qa : q.a = ((b + TA.length : Nat) - 1 : Int) := by rw [← hq]; rfl
      have qb : q.b = ((b + TA.length + TB.length : Nat) - 1 : Int) := by rw [← hq]; rfl
      have hqb : belowL q = [q.a, q.b] := belowL_bin (by omega)
      have pA := sA.pos
      have pB := sB.pos
      refine ⟨by simp; omega, ?_, fun p hp k hk => ?_, fun k => ?_⟩
      · rw [List.append_assoc]
        refine good_append sA.good (good_append sB.good fun j hj => ?_)
        simp only [List.length_singleton] at hj
        have : j = 0 := by omega
        subst this
        simp only [List.getElem_singleton]
        have hin : inB q.kind 2 7 = true := inB_iff.2 (by omega)
        refine ⟨by simp [aloneB, show q.kind ≠ 0 by omega, show q.kind ≠ 1 by omega, show q.kind ≠ 8 by omega, hin, qn, hn, qc, hc], fun k hk => ?_⟩
        rw [hqb, qa, qb] at hk
        simp only [List.mem_cons, List.not_mem_nil, or_false] at hk
        omega
      · simp only [List.mem_append, List.mem_singleton] at hp
        rcases hp with (hp | hp) | hp
        · exact sA.low p hp k hk
        · have := sB.low p hp k hk; omega
        · subst hp
          rw [hqb, qa, qb] at hk
          simp only [List.mem_cons, List.not_mem_nil, or_false] at hk
          omega
      · have cA := sA.count k
        have cB := sB.count k
        simp only [List.flatMap_append, List.count_append, cA, cB, List.flatMap_cons, List.flatMap_nil, List.append_nil, hqb, List.count_cons, List.count_nil, List.length_append, List.length_cons, List.length_nil, beq_iff_eq, qa, qb]
        (repeat' split) <;> omega
    · have hb := belowL_if h
      obtain ⟨hn, ha1, hb1, hc1⟩ := good_if hg h
      rw [hb]
      simp only [treeS, List.append_nil]
      have sA := ih ps[i].a.toNat b (by omega) (by omega)
      generalize hA : treeL ps f ps[i].a.toNat b = TA at *
      have sB := ih ps[i].b.toNat (b + TA.length) (by omega) (by omega)
      generalize hB : treeL ps f ps[i].b.toNat (b + TA.length) = TB at *
      have sC := ih ps[i].c.toNat (b + TA.length + TB.length) (by omega) (by omega)
      generalize hC : treeL ps f ps[i].c.toNat (b + TA.length + TB.length) = TC at *
      generalize hq : (Part.put (Part.put (Part.put ps[i] (0 + 1) ((b + TA.length : Nat) - 1 : Int)) (0 + 1 + 1) ((b + TA.length + TB.length : Nat) - 1 : Int)) (0 + 1 + 1 + 1) ((b + TA.length + TB.length + TC.length : Nat) - 1 : Int)) = q
      have qk : q.kind = ps[i].kind := by rw [← hq]; rfl
      have qn : q.n = ps[i].n := by rw [← hq]; rfl
      have qa : q.a = ((b + TA.length : Nat) - 1 : Int) := by rw [← hq]; rfl
      have qb : q.b = ((b + TA.length + TB.length : Nat) - 1 : Int) := by rw [← hq]; rfl
      have qc : q.c = ((b + TA.length + TB.length + TC.length : Nat) - 1 : Int) := by rw [← hq]; rfl
      have hqb : belowL q = [q.a, q.b, q.c] := belowL_if (by omega)
      have pA := sA.pos
      have pB := sB.pos
      have pC := sC.pos
      refine ⟨by simp; omega, ?_, fun p hp k hk => ?_, fun k => ?_⟩
      · rw [List.append_assoc, List.append_assoc]
        refine good_append sA.good (good_append sB.good (good_append sC.good fun j hj => ?_))
        simp only [List.length_singleton] at hj
        have : j = 0 := by omega
        subst this
        simp only [List.getElem_singleton]
        refine ⟨by simp [aloneB, show q.kind = 8 by omega, qn, hn], fun k hk => ?_⟩
        rw [hqb, qa, qb, qc] at hk
        simp only [List.mem_cons, List.not_mem_nil, or_false] at hk
        omega
      · simp only [List.mem_append, List.mem_singleton] at hp
        rcases hp with (hp | hp | hp) | hp
        · exact sA.low p hp k hk
        · have := sB.low p hp k hk; omega
        · have := sC.low p hp k hk; omega
        · subst hp
          rw [hqb, qa, qb, qc] at hk
          simp only [List.mem_cons, List.not_mem_nil, or_false] at hk
          omega
      · have cA := sA.count k
        have cB := sB.count k
        have cC := sC.count k
        simp only [List.flatMap_append, List.count_append, cA, cB, cC, List.flatMap_cons, List.flatMap_nil, List.append_nil, hqb, List.count_cons, List.count_nil, List.length_append, List.length_cons, List.length_nil, beq_iff_eq, qa, qb, qc]
        (repeat' split) <;> omega
/-! how many parts are put -/
theorem treeS_len {t : Nat → Nat → List Part} {m : Nat → Nat} : ∀ (ks : List Int) (x : Nat) (p : Part) (b : Nat), (∀ k ∈ ks, ∀ b, (t k.toNat b).length = m k.toNat) → (treeS t ks x p b).2.length = (ks.map fun k => m k.toNat).sum
  | [], x, p, b, _ => rfl
  | k :: ks, x, p, b, h => by
    have h1 := treeS_len ks (x + 1) (p.put (x + 1) ((b + (t k.toNat b).length : Nat) - 1 : Int)) (b + (t k.toNat b).length) (fun j hj b => h j (List.mem_cons_of_mem _ hj) b)
    have h2 := h k (List.mem_cons_self ..) b
    show (t k.toNat b ++ _).length = _
    rw [List.length_append, h1, List.map_cons, List.sum_cons, h2]
/-- how many parts a part is with all below it -/
def siz (ps : List Part) (i : Nat) : Nat := (treeL ps (i + 1) i 0).length
theorem treeL_len {ps : List Part} (hv : ∀ i (h : i < ps.length), GoodAt ps[i] i) : ∀ (i : Nat) (hi : i < ps.length), (∀ f b, i < f → (treeL ps f i b).length = siz ps i) ∧ siz ps i = 1 + ((belowL ps[i]).map fun k => siz ps k.toNat).sum := by
  intro i
  induction i using Nat.strongRecOn with
  | _ i ih =>
    intro hi
    have hg := hv i hi
    have key : ∀ f b, i < f → (treeL ps f i b).length = 1 + ((belowL ps[i]).map fun k => siz ps k.toNat).sum := by
      intro f b hf
      obtain ⟨f', rfl⟩ : ∃ f', f = f' + 1 := ⟨f - 1, by omega⟩
      rw [treeL_some hi, List.length_append, treeS_len (m := siz ps) _ _ _ _ (fun k hk b => by
        have := hg.2 k hk
        exact (ih k.toNat (by omega) (by omega)).1 f' b (by omega))]
      simp; omega
    refine ⟨fun f b hf => ?_, key (i + 1) 0 (by omega)⟩
    rw [key f b hf]
    exact (key (i + 1) 0 (by omega)).symm
theorem siz_sum {ps : List Part} (hv : ∀ i (h : i < ps.length), GoodAt ps[i] i) : ∀ (m : Nat), m ≤ ps.length → ((List.range m).map (siz ps)).sum = m + (((ps.take m).flatMap belowL).map fun k => siz ps k.toNat).sum
  | 0, _ => by simp
  | m + 1, h => by
    have h1 := siz_sum hv m (by omega)
    rw [List.range_succ, List.map_append, List.sum_append, h1, take_succ_flatMap _ _ _ (by omega), List.map_append, List.sum_append]
    have := (treeL_len hv m (by omega)).2
    simp only [List.map_cons, List.map_nil, List.sum_cons, List.sum_nil]
    omega
theorem siz_last {ps : List Part} (h : ValidP ps) : siz ps (ps.length - 1) = ps.length := by
  have hv := h.2.2.1
  have hpos := h.1
  have h1 := siz_sum hv ps.length (Nat.le_refl _)
  rw [List.take_length] at h1
  have hp : List.Perm (ps.flatMap belowL) ((List.range (ps.length - 1)).map (fun (k : Nat) => (k : Int))) := by
    rw [List.perm_iff_count]
    intro x
    by_cases hx : 0 ≤ x ∧ x < ((ps.length - 1 : Nat) : Int)
    · have hc := h.2.2.2 x.toNat (by omega)
      rw [Int.toNat_of_nonneg hx.1] at hc
      rw [hc]
      have hnd : ((List.range (ps.length - 1)).map (fun (k : Nat) => (k : Int))).Nodup := by
        unfold List.Nodup
        rw [List.pairwise_map]
        exact List.Pairwise.imp (by intro a b h; omega) List.pairwise_lt_range
      have hmem : x ∈ (List.range (ps.length - 1)).map (fun (k : Nat) => (k : Int)) := List.mem_map.2 ⟨x.toNat, List.mem_range.2 (by omega), by omega⟩
      have := hnd.count (a := x)
      rw [if_pos hmem] at this
      exact this.symm
    · have h2 : x ∉ ps.flatMap belowL := by
        intro hm
        obtain ⟨p, hp, hk⟩ := List.mem_flatMap.1 hm
        obtain ⟨i, hi, rfl⟩ := List.mem_iff_getElem.1 hp
        have := (hv i hi).2 x hk
        omega
      have h3 : x ∉ (List.range (ps.length - 1)).map (fun (k : Nat) => (k : Int)) := by
        intro hm
        obtain ⟨k, hk, rfl⟩ := List.mem_map.1 hm
        rw [List.mem_range] at hk
        omega
      rw [List.count_eq_zero.2 h2, List.count_eq_zero.2 h3]
  have h4 := (hp.map (fun k => siz ps k.toNat)).sum_nat
  rw [h4, List.map_map] at h1
  have e : ps.length = (ps.length - 1) + 1 := by omega
  have h5 : ((List.range ps.length).map (siz ps)).sum = ((List.range (ps.length - 1)).map (siz ps)).sum + siz ps (ps.length - 1) := by
    conv => lhs; rw [e, List.range_succ]
    simp
  have h6 : ((List.range (ps.length - 1)).map ((fun k : Int => siz ps k.toNat) ∘ fun (k : Nat) => (k : Int))).sum = ((List.range (ps.length - 1)).map (siz ps)).sum := rfl
  omega
/-- a formula's parts in order -/
noncomputable def ordL (ps : List Part) : List Part := if validF ps then putL ps ps.length (ps.length - 1) [] else []
theorem ordL_tree {ps : List Part} (h : ValidP ps) : ordL ps = treeL ps ps.length (ps.length - 1) 0 := by
  unfold ordL
  rw [if_pos (validF_iff.2 h), putL_tree]
  simp
theorem ordL_length {ps : List Part} (h : ValidP ps) : (ordL ps).length = ps.length := by
  have hp := h.1
  rw [ordL_tree h, (treeL_len h.2.2.1 (ps.length - 1) (by omega)).1 _ _ (by omega), siz_last h]
theorem ordL_valid {ps : List Part} (h : ValidP ps) : ValidP (ordL ps) := by
  have hl := ordL_length h
  have h0 := h.1
  have hs := treeL_stands h.2.2.1 ps.length (ps.length - 1) 0 (by omega) (by omega)
  rw [← ordL_tree h] at hs
  refine ⟨by have := h.1; omega, by have := h.2.1; omega, fun i hi => ?_, fun j hj => ?_⟩
  · have := hs.good i hi; rwa [Nat.zero_add] at this
  · rw [hs.count j, if_pos ⟨by omega, by omega⟩]
end SG
