/- Plain data: the value of a formula, and what is read for it. No program here. -/
import Derived.Test.YtpkooglnapjcnaaPlain2
namespace SG
set_option linter.unusedSimpArgs false
set_option linter.unusedVariables false
def joinI (k x y : Int) : Int :=
  if k = 2 then (x + y) % 1000 else if k = 3 then (x - y + 1000) % 1000 else if k = 4 then x * y % 1000
  else if k = 5 then (if y < x then y else x) else if k = 6 then (if x < y then y else x) else if x < y then 1 else 0
def InMod (x : Int) : Prop := 0 ≤ x ∧ x ≤ 999
theorem joinI_in {k x y : Int} (hx : InMod x) (hy : InMod y) : InMod (joinI k x y) := by
  obtain ⟨x0, x1⟩ := hx
  obtain ⟨y0, y1⟩ := hy
  unfold joinI InMod
  (repeat' split) <;> first | omega | exact ⟨Int.emod_nonneg _ (by decide), by have := Int.emod_lt_of_pos (x * y) (show (0 : Int) < 1000 by decide); omega⟩
def evL (ps : List Part) (vals : Int → Int) (i : Nat) : Int × List Int :=
  match ps[i]? with
  | none => (0, [])
  | some p =>
    if p.kind = 0 then (p.n, [])
    else if p.kind = 1 then (vals p.n, [p.n])
    else if h : p.a.toNat < i ∧ p.b.toNat < i ∧ p.c.toNat < i then
      let x := evL ps vals p.a.toNat
      if p.kind = 8 then
        let y := if x.1 ≠ 0 then evL ps vals p.b.toNat else evL ps vals p.c.toNat
        (y.1, x.2 ++ y.2)
      else
        let y := evL ps vals p.b.toNat
        (joinI p.kind x.1 y.1, x.2 ++ y.2)
    else (0, [])
termination_by i
decreasing_by all_goals omega
section
variable {ps : List Part} {vals : Int → Int} {i : Nat}
theorem evL_num (hi : i < ps.length) (hk : ps[i].kind = 0) : evL ps vals i = (ps[i].n, []) := by
  rw [evL, List.getElem?_eq_getElem hi]; simp [hk]
theorem evL_read (hi : i < ps.length) (hk : ps[i].kind = 1) : evL ps vals i = (vals ps[i].n, [ps[i].n]) := by
  rw [evL, List.getElem?_eq_getElem hi]; simp [hk]
theorem good_kind {p : Part} {i : Nat} (h : GoodAt p i) : p.kind = 0 ∨ p.kind = 1 ∨ (2 ≤ p.kind ∧ p.kind ≤ 7) ∨ p.kind = 8 := by
  have h1 := h.1
  by_cases k0 : p.kind = 0
  · exact .inl k0
  by_cases k1 : p.kind = 1
  · exact .inr (.inl k1)
  by_cases k8 : p.kind = 8
  · exact .inr (.inr (.inr k8))
  by_cases k2 : 2 ≤ p.kind ∧ p.kind ≤ 7
  · exact .inr (.inr (.inl k2))
  · simp [aloneB, k0, k1, k8, inB_not.2 k2] at h1
theorem good_bin {p : Part} {i : Nat} (h : GoodAt p i) (h0 : p.kind ≠ 0) (h1 : p.kind ≠ 1) (h8 : p.kind ≠ 8) : (2 ≤ p.kind ∧ p.kind ≤ 7) ∧ p.c = -1 ∧ p.n = 0 ∧ (0 ≤ p.a ∧ p.a < i) ∧ (0 ≤ p.b ∧ p.b < i) := by
  have hk : 2 ≤ p.kind ∧ p.kind ≤ 7 := by rcases good_kind h with h | h | h | h <;> omega
  have hin := inB_iff.2 hk
  have hb : belowL p = [p.a, p.b] := by simp [belowL, h8, hin]
  have ha := h.1
  simp [aloneB, h0, h1, h8, hin] at ha
  exact ⟨hk, ha.2, ha.1, h.2 _ (by rw [hb]; simp), h.2 _ (by rw [hb]; simp)⟩
theorem good_if {p : Part} {i : Nat} (h : GoodAt p i) (h8 : p.kind = 8) : p.n = 0 ∧ (0 ≤ p.a ∧ p.a < i) ∧ (0 ≤ p.b ∧ p.b < i) ∧ (0 ≤ p.c ∧ p.c < i) := by
  have hb : belowL p = [p.a, p.b, p.c] := by simp [belowL, h8]
  have ha := h.1
  simp [aloneB, h8] at ha
  exact ⟨ha, h.2 _ (by rw [hb]; simp), h.2 _ (by rw [hb]; simp), h.2 _ (by rw [hb]; simp)⟩
theorem evL_bin (hi : i < ps.length) (hg : GoodAt ps[i] i) (h0 : ps[i].kind ≠ 0) (h1 : ps[i].kind ≠ 1) (h8 : ps[i].kind ≠ 8) :
    evL ps vals i = (joinI ps[i].kind (evL ps vals ps[i].a.toNat).1 (evL ps vals ps[i].b.toNat).1, (evL ps vals ps[i].a.toNat).2 ++ (evL ps vals ps[i].b.toNat).2) := by
  obtain ⟨_, hc, _, ha, hb⟩ := good_bin hg h0 h1 h8
  conv => lhs; rw [evL, List.getElem?_eq_getElem hi]
  simp only [h0, h1, h8, if_false]
  rw [dif_pos ⟨by omega, by omega, by omega⟩]
theorem evL_if (hi : i < ps.length) (hg : GoodAt ps[i] i) (h8 : ps[i].kind = 8) (hx : (evL ps vals ps[i].a.toNat).1 ≠ 0) :
    evL ps vals i = ((evL ps vals ps[i].b.toNat).1, (evL ps vals ps[i].a.toNat).2 ++ (evL ps vals ps[i].b.toNat).2) := by
  obtain ⟨_, ha, hb, hc⟩ := good_if hg h8
  conv => lhs; rw [evL, List.getElem?_eq_getElem hi]
  simp only [h8]
  rw [dif_pos ⟨by omega, by omega, by omega⟩]
  simp [hx]
theorem evL_else (hi : i < ps.length) (hg : GoodAt ps[i] i) (h8 : ps[i].kind = 8) (hx : (evL ps vals ps[i].a.toNat).1 = 0) :
    evL ps vals i = ((evL ps vals ps[i].c.toNat).1, (evL ps vals ps[i].a.toNat).2 ++ (evL ps vals ps[i].c.toNat).2) := by
  obtain ⟨_, ha, hb, hc⟩ := good_if hg h8
  conv => lhs; rw [evL, List.getElem?_eq_getElem hi]
  simp only [h8]
  rw [dif_pos ⟨by omega, by omega, by omega⟩]
  simp [hx]
/-- the induction over a valid formula -/
theorem part_cases (hv : ∀ i (h : i < ps.length), GoodAt ps[i] i) (hi : i < ps.length) : ps[i].kind = 0 ∨ ps[i].kind = 1 ∨ (ps[i].kind = 8) ∨ (ps[i].kind ≠ 0 ∧ ps[i].kind ≠ 1 ∧ ps[i].kind ≠ 8) := by omega
theorem evL_in (hv : ∀ i (h : i < ps.length), GoodAt ps[i] i) (hvals : ∀ p ∈ ps, p.kind = 1 → InMod (vals p.n)) : ∀ (i : Nat), i < ps.length → InMod (evL ps vals i).1 := by
  intro i
  induction i using Nat.strongRecOn with
  | _ i ih =>
    intro hi
    have hg := hv i hi
    rcases part_cases hv hi with h | h | h | ⟨h0, h1, h8⟩
    · rw [evL_num hi h]
      have := hg.1
      simp [aloneB, h, inB] at this
      exact ⟨by dsimp only; omega, by dsimp only; omega⟩
    · rw [evL_read hi h]; exact hvals _ (List.getElem_mem hi) h
    · obtain ⟨_, ha, hb, hc⟩ := good_if hg h
      by_cases hx : (evL ps vals ps[i].a.toNat).1 = 0
      · rw [evL_else hi hg h hx]; exact ih _ (by omega) (by omega)
      · rw [evL_if hi hg h hx]; exact ih _ (by omega) (by omega)
    · obtain ⟨_, _, _, ha, hb⟩ := good_bin hg h0 h1 h8
      rw [evL_bin hi hg h0 h1 h8]
      exact joinI_in (ih _ (by omega) (by omega)) (ih _ (by omega) (by omega))
theorem evL_sub (hv : ∀ i (h : i < ps.length), GoodAt ps[i] i) : ∀ (i : Nat), i < ps.length → ∀ n ∈ (evL ps vals i).2, ∃ p ∈ ps, p.kind = 1 ∧ p.n = n := by
  intro i
  induction i using Nat.strongRecOn with
  | _ i ih =>
    intro hi n hn
    have hg := hv i hi
    rcases part_cases hv hi with h | h | h | ⟨h0, h1, h8⟩
    · rw [evL_num hi h] at hn; simp at hn
    · rw [evL_read hi h] at hn
      simp only [List.mem_singleton] at hn
      exact ⟨_, List.getElem_mem hi, h, hn.symm⟩
    · obtain ⟨_, ha, hb, hc⟩ := good_if hg h
      by_cases hx : (evL ps vals ps[i].a.toNat).1 = 0
      · rw [evL_else hi hg h hx] at hn
        rcases List.mem_append.1 hn with hn | hn
        · exact ih _ (by omega) (by omega) n hn
        · exact ih _ (by omega) (by omega) n hn
      · rw [evL_if hi hg h hx] at hn
        rcases List.mem_append.1 hn with hn | hn
        · exact ih _ (by omega) (by omega) n hn
        · exact ih _ (by omega) (by omega) n hn
    · obtain ⟨_, _, _, ha, hb⟩ := good_bin hg h0 h1 h8
      rw [evL_bin hi hg h0 h1 h8] at hn
      rcases List.mem_append.1 hn with hn | hn
      · exact ih _ (by omega) (by omega) n hn
      · exact ih _ (by omega) (by omega) n hn
theorem evL_len (hv : ∀ i (h : i < ps.length), GoodAt ps[i] i) : ∀ (i : Nat), i < ps.length → (evL ps vals i).2.length ≤ 2 ^ i := by
  intro i
  induction i using Nat.strongRecOn with
  | _ i ih =>
    intro hi
    have hg := hv i hi
    have two : ∀ a b : Nat, a < i → b < i → 2 ^ a + 2 ^ b ≤ 2 ^ i := by
      intro a b ha hb
      obtain ⟨j, rfl⟩ : ∃ j, i = j + 1 := ⟨i - 1, by omega⟩
      have h1 := Nat.pow_le_pow_right (show 0 < 2 by decide) (show a ≤ j by omega)
      have h2 := Nat.pow_le_pow_right (show 0 < 2 by decide) (show b ≤ j by omega)
      rw [Nat.pow_succ]; omega
    rcases part_cases hv hi with h | h | h | ⟨h0, h1, h8⟩
    · rw [evL_num hi h]; simp
    · rw [evL_read hi h]; simpa using Nat.one_le_two_pow
    · obtain ⟨_, ha, hb, hc⟩ := good_if hg h
      have ia := ih ps[i].a.toNat (by omega) (by omega)
      have ib := ih ps[i].b.toNat (by omega) (by omega)
      have ic := ih ps[i].c.toNat (by omega) (by omega)
      have t1 := two ps[i].a.toNat ps[i].b.toNat (by omega) (by omega)
      have t2 := two ps[i].a.toNat ps[i].c.toNat (by omega) (by omega)
      by_cases hx : (evL ps vals ps[i].a.toNat).1 = 0
      · rw [evL_else hi hg h hx]; simp only [List.length_append]; omega
      · rw [evL_if hi hg h hx]; simp only [List.length_append]; omega
    · obtain ⟨_, _, _, ha, hb⟩ := good_bin hg h0 h1 h8
      have ia := ih ps[i].a.toNat (by omega) (by omega)
      have ib := ih ps[i].b.toNat (by omega) (by omega)
      have t1 := two ps[i].a.toNat ps[i].b.toNat (by omega) (by omega)
      rw [evL_bin hi hg h0 h1 h8]; simp only [List.length_append]; omega
/-- only the values of what is read count -/
theorem evL_congr {vals' : Int → Int} (hv : ∀ i (h : i < ps.length), GoodAt ps[i] i) : ∀ (i : Nat), i < ps.length → (∀ n ∈ (evL ps vals i).2, vals' n = vals n) → evL ps vals' i = evL ps vals i := by
  intro i
  induction i using Nat.strongRecOn with
  | _ i ih =>
    intro hi hn
    have hg := hv i hi
    rcases part_cases hv hi with h | h | h | ⟨h0, h1, h8⟩
    · rw [evL_num hi h, evL_num hi h]
    · rw [evL_read hi h] at hn
      rw [evL_read hi h, evL_read hi h, hn _ (by simp)]
    · obtain ⟨_, ha, hb, hc⟩ := good_if hg h
      by_cases hx : (evL ps vals ps[i].a.toNat).1 = 0
      · rw [evL_else hi hg h hx] at hn
        have ea := ih ps[i].a.toNat (by omega) (by omega) (fun n h => hn n (List.mem_append_left _ h))
        have ec := ih ps[i].c.toNat (by omega) (by omega) (fun n h => hn n (List.mem_append_right _ h))
        rw [evL_else hi hg h hx, evL_else hi hg h (by rw [ea]; exact hx), ea, ec]
      · rw [evL_if hi hg h hx] at hn
        have ea := ih ps[i].a.toNat (by omega) (by omega) (fun n h => hn n (List.mem_append_left _ h))
        have eb := ih ps[i].b.toNat (by omega) (by omega) (fun n h => hn n (List.mem_append_right _ h))
        rw [evL_if hi hg h hx, evL_if hi hg h (by rw [ea]; exact hx), ea, eb]
    · obtain ⟨_, _, _, ha, hb⟩ := good_bin hg h0 h1 h8
      rw [evL_bin hi hg h0 h1 h8] at hn
      have ea := ih ps[i].a.toNat (by omega) (by omega) (fun n h => hn n (List.mem_append_left _ h))
      have eb := ih ps[i].b.toNat (by omega) (by omega) (fun n h => hn n (List.mem_append_right _ h))
      rw [evL_bin hi hg h0 h1 h8, evL_bin hi hg h0 h1 h8, ea, eb]
end
/-- a number added, if it is not there -/
def addR (rs : List Int) (n : Int) : List Int := if rs.contains n then rs else rs ++ [n]
def addAll (rs ns : List Int) : List Int := ns.foldl addR rs
theorem addAll_append (rs ns ms : List Int) : addAll rs (ns ++ ms) = addAll (addAll rs ns) ms := by simp [addAll]
theorem mem_addR {rs : List Int} {n x : Int} : x ∈ addR rs n ↔ x ∈ rs ∨ x = n := by
  unfold addR
  split
  · rename_i h
    have : n ∈ rs := by simpa using h
    constructor
    · exact .inl
    · rintro (h | rfl)
      · exact h
      · exact this
  · simp
theorem mem_addAll {ns : List Int} : ∀ {rs : List Int} {x : Int}, x ∈ addAll rs ns ↔ x ∈ rs ∨ x ∈ ns := by
  induction ns with
  | nil => intro rs x; simp [addAll]
  | cons n ns ih =>
    intro rs x
    show x ∈ addAll (addR rs n) ns ↔ _
    rw [ih, mem_addR]
    simp only [List.mem_cons]
    constructor
    · rintro ((h | h) | h)
      · exact .inl h
      · exact .inr (.inl h)
      · exact .inr (.inr h)
    · rintro (h | h | h)
      · exact .inl (.inl h)
      · exact .inl (.inr h)
      · exact .inr h
theorem addR_length (rs : List Int) (n : Int) : (addR rs n).length ≤ rs.length + 1 := by
  unfold addR
  split
  · omega
  · simp
theorem addAll_length (ns : List Int) : ∀ (rs : List Int), (addAll rs ns).length ≤ rs.length + ns.length := by
  induction ns with
  | nil => intro rs; simp [addAll]
  | cons n ns ih =>
    intro rs
    have h1 := ih (addR rs n)
    have h2 := addR_length rs n
    show (addAll (addR rs n) ns).length ≤ _
    simp only [List.length_cons]
    omega
theorem addR_nodup {rs : List Int} {n : Int} (h : rs.Nodup) : (addR rs n).Nodup := by
  unfold addR
  split
  · exact h
  · rename_i hn
    have : n ∉ rs := by simpa using hn
    rw [List.nodup_append]
    refine ⟨h, by simp, fun a ha b hb => ?_⟩
    simp only [List.mem_singleton] at hb
    subst hb
    exact fun e => this (e ▸ ha)
theorem addAll_nodup {ns : List Int} : ∀ {rs : List Int}, rs.Nodup → (addAll rs ns).Nodup := by
  induction ns with
  | nil => intro rs h; exact h
  | cons n ns ih => intro rs h; exact ih (addR_nodup h)
def readL (ps : List Part) (vals : Int → Int) : List Int := addAll [] (evL ps vals (ps.length - 1)).2
def valL (ps : List Part) (vals : Int → Int) : Int := (evL ps vals (ps.length - 1)).1
/-- the numbers of a list as values of nodes -/
def valF (xs : List Int) (n : Int) : Int := at0 xs n.toNat
def FitV (ps : List Part) (xs : List Int) : Prop := ValidP ps ∧ xs.length ≤ 10 ∧ (∀ x ∈ xs, InMod x) ∧ ∀ k ∈ mayL ps, k < xs.length
open Classical in
noncomputable def fitV (ps : List Part) (xs : List Int) : Bool := decide (FitV ps xs)
theorem fitV_iff {ps : List Part} {xs : List Int} : fitV ps xs = true ↔ FitV ps xs := by simp [fitV]
theorem fitV_not {ps : List Part} {xs : List Int} : fitV ps xs = false ↔ ¬ FitV ps xs := by simp [fitV]
theorem nodup_lt : ∀ (m : Nat) {rs : List Int}, rs.Nodup → (∀ x ∈ rs, 0 ≤ x ∧ x < m) → rs.length ≤ m := by
  intro m
  induction m with
  | zero =>
    intro rs _ hb
    cases rs with
    | nil => simp
    | cons x xs => have := hb x (by simp); omega
  | succ m ih =>
    intro rs hn hb
    by_cases hm : (m : Int) ∈ rs
    · have h1 := ih (rs := rs.erase m) (hn.erase _) (fun x hx => by
        have h2 := (hn.mem_erase_iff).1 hx
        have := hb x h2.2
        have : x ≠ m := h2.1
        omega)
      rw [List.length_erase_of_mem hm] at h1
      omega
    · have := ih hn (fun x hx => by
        have := hb x hx
        have : x ≠ m := fun e => hm (e ▸ hx)
        omega)
      omega
theorem nodup_le {rs : List Int} (h : rs.Nodup) (hb : ∀ x ∈ rs, 0 ≤ x ∧ x ≤ 9) : rs.length ≤ 10 := nodup_lt 10 h (fun x hx => by have := hb x hx; omega)
end SG
