/- Plain data: how folded parts are put together, step by step. No program here. -/
import Derived.Test.YtojffodplphlaaaPA
namespace SG
set_option linter.unusedSimpArgs false
set_option linter.unusedVariables false
theorem foldS_snoc : ∀ (l : List (List Part)) (g : List Part) (x : Nat) (s : Part × List Part), foldS (l ++ [g]) x s = ((foldS l x s).1.put (x + l.length + 1) (((foldS l x s).2 ++ g.map (shiftP (foldS l x s).2.length)).length - 1 : Int), (foldS l x s).2 ++ g.map (shiftP (foldS l x s).2.length))
  | [], g, x, s => by simp [foldS]
  | h :: l, g, x, s => by
    rw [List.cons_append, foldS, foldS_snoc l g (x + 1), foldS]
    rw [List.length_cons, show x + 1 + l.length + 1 = x + (l.length + 1) + 1 by omega]
/-- the first k subs put together -/
def upS (p : Part) (gs : List (List Part)) (k : Nat) : Part × List Part := foldS (gs.take k) 0 (p, [])
theorem upS_zero (p : Part) (gs : List (List Part)) : upS p gs 0 = (p, []) := rfl
theorem upS_succ (p : Part) {gs : List (List Part)} {k : Nat} (h : k < gs.length) : upS p gs (k + 1) = ((upS p gs k).1.put (k + 1) (((upS p gs k).2 ++ gs[k].map (shiftP (upS p gs k).2.length)).length - 1 : Int), (upS p gs k).2 ++ gs[k].map (shiftP (upS p gs k).2.length)) := by
  unfold upS
  rw [List.take_succ_eq_append_getElem h, foldS_snoc]
  have : (gs.take k).length = k := by rw [List.length_take]; omega
  rw [this, Nat.zero_add]
theorem upS_snd (p : Part) {gs : List (List Part)} {k : Nat} (h : k < gs.length) : (upS p gs (k + 1)).2 = (upS p gs k).2 ++ gs[k].map (shiftP (upS p gs k).2.length) := by rw [upS_succ p h]
theorem upS_fst (p : Part) {gs : List (List Part)} {k : Nat} (h : k < gs.length) : (upS p gs (k + 1)).1 = (upS p gs k).1.put (k + 1) ((upS p gs (k + 1)).2.length - 1 : Int) := by rw [upS_succ p h]
theorem upS_full (p : Part) (gs : List (List Part)) : foldC p gs = (upS p gs gs.length).2 ++ [(upS p gs gs.length).1] := by
  unfold upS foldC
  rw [List.take_length]
theorem upS_length (p : Part) {gs : List (List Part)} {b : Nat} (hb : ∀ g ∈ gs, g.length ≤ b) : ∀ k, k ≤ gs.length → (upS p gs k).2.length ≤ b * k := by
  intro k
  induction k with
  | zero => intro _; simp [upS_zero]
  | succ k ih =>
    intro h
    have h1 := ih (by omega)
    have h2 := hb _ (List.getElem_mem (show k < gs.length by omega))
    rw [upS_snd p (by omega), List.length_append, List.length_map, Nat.mul_succ]
    omega
/-- .. and the first parts of one more -/
def inS (acc g : List Part) (m : Nat) : List Part := acc ++ (g.take m).map (shiftP acc.length)
theorem inS_zero (acc g : List Part) : inS acc g 0 = acc := by simp [inS]
theorem inS_succ (acc : List Part) {g : List Part} {m : Nat} (h : m < g.length) : inS acc g m ++ [shiftP acc.length g[m]] = inS acc g (m + 1) := by
  unfold inS
  rw [List.take_succ_eq_append_getElem h, List.map_append]; simp
theorem inS_full (acc g : List Part) : inS acc g g.length = acc ++ g.map (shiftP acc.length) := by simp [inS]
theorem inS_length (acc g : List Part) (m : Nat) : (inS acc g m).length ≤ acc.length + g.length := by
  unfold inS
  rw [List.length_append, List.length_map, List.length_take]
  omega
theorem upS_in (p : Part) {gs : List (List Part)} {k : Nat} (h : k < gs.length) : (upS p gs (k + 1)).2 = inS (upS p gs k).2 gs[k] gs[k].length := by rw [upS_snd p h, inS_full]
/-- where the subs end -/
def endS (p : Part) (gs : List (List Part)) (k : Nat) : List Int := (List.range k).map fun j => ((upS p gs (j + 1)).2.length : Int) - 1
@[simp] theorem endS_length (p : Part) (gs : List (List Part)) (k : Nat) : (endS p gs k).length = k := by simp [endS]
theorem endS_succ (p : Part) (gs : List (List Part)) (k : Nat) : endS p gs k ++ [((upS p gs (k + 1)).2.length : Int) - 1] = endS p gs (k + 1) := by simp [endS, List.range_succ]
theorem endS_get (p : Part) {gs : List (List Part)} {k j : Nat} (h : j < (endS p gs k).length) : (endS p gs k)[j] = ((upS p gs (j + 1)).2.length : Int) - 1 := by simp [endS]
theorem upS_two (p : Part) {gs : List (List Part)} (h : gs.length = 2) : (upS p gs 2).1 = ⟨p.kind, ((upS p gs 1).2.length : Int) - 1, ((upS p gs 2).2.length : Int) - 1, p.c, p.n⟩ := by
  rw [upS_fst p (k := 1) (by omega), upS_fst p (k := 0) (by omega), upS_zero]
  rfl
theorem upS_three (p : Part) {gs : List (List Part)} (h : gs.length = 3) : (upS p gs 3).1 = ⟨p.kind, ((upS p gs 1).2.length : Int) - 1, ((upS p gs 2).2.length : Int) - 1, ((upS p gs 3).2.length : Int) - 1, p.n⟩ := by
  rw [upS_fst p (k := 2) (by omega), upS_fst p (k := 1) (by omega), upS_fst p (k := 0) (by omega), upS_zero]
  rfl
/-- bounds -/
theorem belowL_three (p : Part) : (belowL p).length ≤ 3 := by
  unfold belowL
  split
  · simp
  · split <;> simp
theorem foldP_bound3 {p : Part} {gs : List (List Part)} {b : Nat} (hb : ∀ g ∈ gs, g.length ≤ b) (h3 : gs.length ≤ 3) : (foldP p gs).length ≤ 3 * b + 1 := by
  have hg : ∀ k, (gs.getD k []).length ≤ b := fun k => by
    rw [List.getD_eq_getElem?_getD]
    cases h : gs[k]? with
    | none => simp
    | some g =>
      obtain ⟨hk, e⟩ := List.getElem?_eq_some_iff.1 h
      have := hb _ (List.getElem_mem hk)
      rw [e] at this
      simpa using this
  have hc : (foldC p gs).length ≤ 3 * b + 1 := by
    rw [upS_full, List.length_append]
    have h1 := upS_length p hb gs.length (Nat.le_refl _)
    have h2 : b * gs.length ≤ b * 3 := Nat.mul_le_mul_left _ h3
    simp only [List.length_singleton]
    omega
  unfold foldP
  split
  · split
    · split
      · have := hg 1; omega
      · have := hg 2; omega
    · exact hc
  · split
    · split
      · simp
      · exact hc
    · exact hc
theorem foldL_bound (ps : List Part) : ∀ (f i : Nat), 2 * (foldL ps f i).length + 1 ≤ 3 ^ f
  | 0, i => by simp [foldL]
  | f + 1, i => by
    have h1 : 1 ≤ 3 ^ f := Nat.one_le_pow _ _ (by decide)
    rw [foldL, Nat.pow_succ]
    split
    · simp; omega
    · rename_i p _
      have := foldP_bound3 (p := p) (gs := (belowL p).map fun k => foldL ps f k.toNat) (b := (3 ^ f - 1) / 2) (fun g hg => by
        obtain ⟨k, _, rfl⟩ := List.mem_map.1 hg
        have := foldL_bound ps f k.toNat
        omega) (by rw [List.length_map]; exact belowL_three p)
      omega
/-- what becomes of a part, by cases -/
theorem foldP_one {p : Part} {gs : List (List Part)} (hk : p.kind = 8) (hn : isNum (gs.getD 0 [])) (h0 : (lastP (gs.getD 0 [])).n ≠ 0) : foldP p gs = gs.getD 1 [] := by
  rw [foldP, if_pos hk, if_pos hn, if_pos h0]
theorem foldP_two {p : Part} {gs : List (List Part)} (hk : p.kind = 8) (hn : isNum (gs.getD 0 [])) (h0 : (lastP (gs.getD 0 [])).n = 0) : foldP p gs = gs.getD 2 [] := by
  rw [foldP, if_pos hk, if_pos hn, if_neg (by simpa using h0)]
theorem foldP_num {p : Part} {gs : List (List Part)} (hk : p.kind ≠ 8) (hl : gs.length = 2) (hn : isNum (gs.getD 0 [])) (hm : isNum (gs.getD 1 [])) (hj : joinI p.kind (lastP (gs.getD 0 [])).n (lastP (gs.getD 1 [])).n ≤ 99) : foldP p gs = [numPart (joinI p.kind (lastP (gs.getD 0 [])).n (lastP (gs.getD 1 [])).n)] := by
  rw [foldP, if_neg hk, if_pos hl, if_pos ⟨hn, hm, hj⟩]
theorem foldP_put {p : Part} {gs : List (List Part)} (h1 : ¬ (p.kind = 8 ∧ isNum (gs.getD 0 []))) (h2 : ¬ (p.kind ≠ 8 ∧ gs.length = 2 ∧ isNum (gs.getD 0 []) ∧ isNum (gs.getD 1 []) ∧ joinI p.kind (lastP (gs.getD 0 [])).n (lastP (gs.getD 1 [])).n ≤ 99)) : foldP p gs = foldC p gs := by
  unfold foldP
  split
  · rename_i h
    rw [if_neg (fun hn => h1 ⟨h, hn⟩)]
  · rename_i h
    split
    · rename_i hl
      rw [if_neg (fun hn => h2 ⟨h, hl, hn⟩)]
    · rfl
theorem foldL_low {ps : List Part} (hv : ∀ i (h : i < ps.length), GoodAt ps[i] i) {f i : Nat} (h1 : i < f) (h2 : i < ps.length) : 1 ≤ (foldL ps f i).length ∧ (isNum (foldL ps f i) → 0 ≤ (lastP (foldL ps f i)).n ∧ (lastP (foldL ps f i)).n ≤ 99) := by
  have hf := foldL_folded hv f i h1 h2
  have hp := hf.stands.pos
  exact ⟨by omega, fun hn => (hf.num hn (fun _ => 0)).2⟩
theorem foldL_small {ps : List Part} (hv : ∀ i (h : i < ps.length), GoodAt ps[i] i) {f i : Nat} (h1 : i < f) (h2 : i < ps.length) : ∀ (p : Part), p ∈ foldL ps f i → (-1 ≤ p.a ∧ p.a ≤ (foldL ps f i).length) ∧ (-1 ≤ p.b ∧ p.b ≤ (foldL ps f i).length) ∧ (-1 ≤ p.c ∧ p.c ≤ (foldL ps f i).length) := by
  intro p hp
  have hf := foldL_folded hv f i h1 h2
  obtain ⟨j, hj, rfl⟩ := List.mem_iff_getElem.1 hp
  have hg := good_zero hf.stands j hj
  generalize (foldL ps f i)[j] = p at *
  rcases good_kind hg with hk | hk | hk | hk
  · have ha := hg.1
    simp [aloneB, hk] at ha
    omega
  · have ha := hg.1
    simp [aloneB, hk] at ha
    omega
  · obtain ⟨_, hc, _, ha, hb⟩ := good_bin hg (by omega) (by omega) (by omega)
    omega
  · obtain ⟨_, ha, hb, hc⟩ := good_if hg hk
    omega
/-- a part shifted field by field -/
def Part.get3 (p : Part) (x : Nat) : Int := match x with
  | 1 => p.a
  | 2 => p.b
  | _ => p.c
def shJ (n : Nat) (p : Part) : Nat → Part
  | 0 => p
  | j + 1 => (shJ n p j).put (j + 1) (upI n ((shJ n p j).get3 (j + 1)))
theorem shJ_three (n : Nat) (p : Part) : shJ n p 3 = shiftP n p := rfl
theorem shJ_get {n : Nat} {p : Part} {j : Nat} (h : j < 3) : (shJ n p j).get3 (j + 1) = p.get3 (j + 1) := by
  match j, h with
  | 0, _ => rfl
  | 1, _ => rfl
  | 2, _ => rfl
theorem put_get {p : Part} {j : Nat} (h : j < 3) : p.put (j + 1) (p.get3 (j + 1)) = p := by
  match j, h with
  | 0, _ => rfl
  | 1, _ => rfl
  | 2, _ => rfl
theorem shJ_yes {n : Nat} {p : Part} {j : Nat} (h : 0 ≤ (shJ n p j).get3 (j + 1)) : (shJ n p j).put (j + 1) ((shJ n p j).get3 (j + 1) + n) = shJ n p (j + 1) := by rw [shJ, upI, if_pos h]
theorem shJ_no {n : Nat} {p : Part} {j : Nat} (hj : j < 3) (h : ¬ 0 ≤ (shJ n p j).get3 (j + 1)) : shJ n p j = shJ n p (j + 1) := by rw [shJ, upI, if_neg h, put_get hj]
theorem get3_le {p : Part} {b : Int} (h : p.a ≤ b ∧ p.b ≤ b ∧ p.c ≤ b) (x : Nat) : p.get3 x ≤ b := by
  unfold Part.get3
  split
  · exact h.1
  · exact h.2.1
  · exact h.2.2
theorem foldL_last {ps : List Part} (hv : ∀ i (h : i < ps.length), GoodAt ps[i] i) {f i : Nat} (h1 : i < f) (h2 : i < ps.length) : InMod (lastP (foldL ps f i)).n := by
  have hf := foldL_folded hv f i h1 h2
  have hp := hf.stands.pos
  have hg := good_zero hf.stands ((foldL ps f i).length - 1) (by omega)
  rw [← lastP_get (by omega)] at hg
  generalize lastP (foldL ps f i) = p at *
  rcases good_kind hg with hk | hk | hk | hk
  · have ha := hg.1
    simp [aloneB, hk, inB] at ha
    exact ⟨by omega, by omega⟩
  · have ha := hg.1
    simp [aloneB, hk, inB] at ha
    exact ⟨by omega, by omega⟩
  · obtain ⟨_, _, hn, _⟩ := good_bin hg (by omega) (by omega) (by omega)
    exact ⟨by omega, by omega⟩
  · obtain ⟨hn, _⟩ := good_if hg hk
    exact ⟨by omega, by omega⟩
/-- the law's values -/
def tryL (k : Int) (n : Nat) : List Int := (List.range n).map fun (j : Nat) => ((j : Int) * 7 + k * k * 13) % (k + 3)
@[simp] theorem tryL_length (k : Int) (n : Nat) : (tryL k n).length = n := by simp [tryL]
theorem tryL_succ (k : Int) (n : Nat) : tryL k n ++ [((n : Int) * 7 + k * k * 13) % (k + 3)] = tryL k (n + 1) := by simp [tryL, List.range_succ]
theorem try_fit {ps : List Part} (hv : ValidP ps) {k : Int} (h0 : 0 ≤ k) (h1 : k ≤ 4) : fitV ps (tryL k 10) = true := by
  refine fitV_iff.2 ⟨hv, by simp, fun x hx => ?_, fun n hn => by have := (mem_mayL.1 hn).1; simp; omega⟩
  obtain ⟨j, _, rfl⟩ := List.mem_map.1 hx
  have e1 := Int.emod_nonneg ((j : Int) * 7 + k * k * 13) (show k + 3 ≠ 0 by omega)
  have e2 := Int.emod_lt_of_pos ((j : Int) * 7 + k * k * 13) (show 0 < k + 3 by omega)
  exact ⟨e1, by omega⟩
theorem try_sq {k : Nat} (h : k < 5) : 0 ≤ (k : Int) * k ∧ (k : Int) * k ≤ 16 := by
  rcases (by omega : k = 0 ∨ k = 1 ∨ k = 2 ∨ k = 3 ∨ k = 4) with rfl | rfl | rfl | rfl | rfl <;> decide
theorem folF_no {ps : List Part} (h : validF ps = false) : folF ps = [] := by simp [folF, h]
theorem folF_twelve (ps : List Part) : (folF ps).length ≤ 12 := by
  cases h : validF ps with
  | false => rw [folF_no h]; simp
  | true =>
    have hv := validF_iff.1 h
    have := folF_length hv
    have := hv.2.1
    omega
theorem folF_mays {ps : List Part} (h : ValidP ps) : ∀ x ∈ mayV (folF ps), x ∈ mayV ps := by
  intro n hn
  rw [mayV_yes (validF_iff.2 (folF_valid h))] at hn
  rw [mayV_yes (validF_iff.2 h)]
  obtain ⟨h1, p, hp, hk, e⟩ := mem_mayL.1 hn
  obtain ⟨q, hq, hqk, hqe⟩ := (folF_folded h).reads p hp hk
  exact mem_mayL.2 ⟨h1, q, hq, hqk, hqe.trans e⟩
theorem folF_val {ps : List Part} (h : ValidP ps) (v : Int → Int) : valL (folF ps) v = valL ps v := by
  unfold valL; rw [folF_eval h]
theorem folF_read {ps : List Part} (h : ValidP ps) (v : Int → Int) : readL (folF ps) v = readL ps v := by
  unfold readL; rw [folF_eval h]
end SG
