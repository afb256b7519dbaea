/- Plain data: values that fit, as the reference tells them; what a list's first numbers are. No program here. -/
import Derived.Test.YtpkooglnapjcnaaPlain5
namespace SG
set_option linter.unusedSimpArgs false
set_option linter.unusedVariables false
def allB (xs : List Int) (lo hi : Int) : Bool := xs.all fun x => inB x lo hi
theorem allB_iff {xs : List Int} {lo hi : Int} : allB xs lo hi = true ↔ ∀ x ∈ xs, lo ≤ x ∧ x ≤ hi := by
  simp only [allB, List.all_eq_true, inB_iff]
theorem allB_not {xs : List Int} {lo hi : Int} {k : Nat} (hk : k < xs.length) (h : ¬ (lo ≤ xs[k] ∧ xs[k] ≤ hi)) : allB xs lo hi = false := by
  cases e : allB xs lo hi with
  | false => rfl
  | true => exact absurd (allB_iff.1 e _ (List.getElem_mem hk)) h
theorem any_allB {xs : List Int} {lo hi : Int} : (xs.any fun x => !inB x lo hi) = !allB xs lo hi := by
  rw [allB, List.not_all_eq_any_not]
theorem addAll_take_succ {ns : List Int} {i : Nat} (hi : i < ns.length) : addAll [] (ns.take (i + 1)) = addR (addAll [] (ns.take i)) ns[i] := by
  rw [List.take_succ_eq_append_getElem hi, addAll_append]; rfl
theorem asc_last {l : List Int} (h : Asc l) (n : Int) : (∀ k ∈ l, k < n) ↔ (l.length = 0 ∨ ∃ h : l.length - 1 < l.length, l[l.length - 1] < n) := by
  constructor
  · intro hk
    by_cases e : l.length = 0
    · exact .inl e
    · exact .inr ⟨by omega, hk _ (List.getElem_mem _)⟩
  · rintro (e | ⟨e, h1⟩) k hk
    · rw [List.length_eq_zero_iff.1 e] at hk; simp at hk
    · obtain ⟨j, hj, rfl⟩ := List.mem_iff_getElem.1 hk
      by_cases hje : j = l.length - 1
      · subst hje; exact h1
      · have := List.pairwise_iff_getElem.1 h j (l.length - 1) hj e (by omega); omega
/-- the reference's test of values -/
def fitB (ps : List Part) (xs : List Int) : Bool := allB xs 0 999 && decide ((xs.length : Int) ≤ 10) && (decide (((mayL ps).length : Int) = 0) || decide (at0 (mayL ps) ((mayL ps).length - 1) < (xs.length : Int)))
theorem fitB_eq {ps : List Part} {xs : List Int} (h : ValidP ps) : fitB ps xs = fitV ps xs := by
  have hl : (∀ k ∈ mayL ps, k < (xs.length : Int)) ↔ (decide (((mayL ps).length : Int) = 0) || decide (at0 (mayL ps) ((mayL ps).length - 1) < (xs.length : Int))) = true := by
    rw [asc_last (asc_mayL ps)]
    simp only [Bool.or_eq_true, decide_eq_true_eq]
    by_cases e : (mayL ps).length = 0
    · simp [e]
    · rw [← at0_eq (show (mayL ps).length - 1 < (mayL ps).length by omega)]
      constructor
      · rintro (h | ⟨_, h⟩)
        · exact absurd h e
        · exact .inr h
      · rintro (h | h)
        · omega
        · exact .inr ⟨by omega, h⟩
  rw [Bool.eq_iff_iff, fitV_iff]
  unfold fitB FitV
  rw [Bool.and_eq_true, Bool.and_eq_true, decide_eq_true_eq, ← hl, allB_iff]
  exact ⟨fun ⟨⟨a, b⟩, c⟩ => ⟨h, by omega, a, c⟩, fun ⟨_, b, a, c⟩ => ⟨⟨a, by omega⟩, c⟩⟩
theorem readL_nodup (ps : List Part) (vals : Int → Int) : (readL ps vals).Nodup := addAll_nodup List.nodup_nil
theorem readL_may {ps : List Part} (h : ValidP ps) (vals : Int → Int) {n : Int} (hn : n ∈ readL ps vals) : n ∈ mayL ps := by
  have hl := h.1
  rcases mem_addAll.1 hn with hn | hn
  · simp at hn
  · obtain ⟨p, hp, hk, e⟩ := evL_sub h.2.2.1 (ps.length - 1) (by omega) n hn
    have := h.fit p hp hk
    rw [← e]
    exact mem_mayL.2 ⟨this, p, hp, hk, rfl⟩
theorem readL_length {ps : List Part} (h : ValidP ps) (vals : Int → Int) : (readL ps vals).length ≤ 10 :=
  nodup_le (readL_nodup ps vals) fun x hx => by have := (mem_mayL.1 (readL_may h vals hx)).1; omega
/-- what is read, or nothing -/
noncomputable def rdsL (ps : List Part) (xs : List Int) : List Int := if fitV ps xs then readL ps (valF xs) else []
theorem rdsL_yes {ps : List Part} {xs : List Int} (h : fitV ps xs = true) : rdsL ps xs = readL ps (valF xs) := if_pos h
theorem rdsL_length (ps : List Part) (xs : List Int) : (rdsL ps xs).length ≤ 10 := by
  cases h : fitV ps xs with
  | true => rw [rdsL_yes h]; exact readL_length (fitV_iff.1 h).1 _
  | false => simp [rdsL, h]
theorem rdsL_nodup (ps : List Part) (xs : List Int) : (rdsL ps xs).Nodup := by
  cases h : fitV ps xs with
  | true => rw [rdsL_yes h]; exact readL_nodup _ _
  | false => simp [rdsL, h]
theorem rdsL_may (ps : List Part) (xs : List Int) : ∀ x ∈ rdsL ps xs, x ∈ mayV ps := by
  intro x hx
  cases h : fitV ps xs with
  | true =>
    rw [rdsL_yes h] at hx
    rw [mayV_yes (validF_iff.2 (fitV_iff.1 h).1)]
    exact readL_may (fitV_iff.1 h).1 _ hx
  | false => simp [rdsL, h] at hx
theorem at0_set_ne (xs : List Int) (i j : Nat) (v : Int) (h : i ≠ j) : at0 (xs.set i v) j = at0 xs j := by
  simp [at0, List.getD_eq_getElem?_getD, List.getElem?_set_ne h]
theorem at0_set_self (xs : List Int) (i : Nat) (v : Int) (h : i < xs.length) : at0 (xs.set i v) i = v := by
  simp [at0, List.getD_eq_getElem?_getD, h]
theorem unread {ps : List Part} {xs : List Int} (hf : FitV ps xs) {i : Nat} (hi : i < xs.length) {v : Int} (hv : InMod v) (hn : (i : Int) ∉ rdsL ps xs) :
    fitV ps (xs.set i v) = true ∧ valL ps (valF (xs.set i v)) = valL ps (valF xs) ∧ rdsL ps (xs.set i v) = rdsL ps xs := by
  have h1 : fitV ps (xs.set i v) = true := fitV_iff.2 ⟨hf.1, by rw [List.length_set]; exact hf.2.1, fun x hx => by
    rcases List.mem_or_eq_of_mem_set hx with h | rfl
    · exact hf.2.2.1 x h
    · exact hv, by rw [List.length_set]; exact hf.2.2.2⟩
  have hp := hf.1.1
  have he : evL ps (valF (xs.set i v)) (ps.length - 1) = evL ps (valF xs) (ps.length - 1) := by
    refine evL_congr hf.1.2.2.1 _ (by omega) fun n hm => ?_
    have hr : n ∈ readL ps (valF xs) := mem_addAll.2 (.inr hm)
    have h0 := (mem_mayL.1 (readL_may hf.1 _ hr)).1
    have hne : i ≠ n.toNat := fun e => hn (by rw [rdsL_yes (fitV_iff.2 hf), show (i : Int) = n by omega]; exact hr)
    exact at0_set_ne _ _ _ _ hne
  refine ⟨h1, by unfold valL; rw [he], ?_⟩
  rw [rdsL_yes h1, rdsL_yes (fitV_iff.2 hf)]
  unfold readL; rw [he]
theorem fit_ten {ps : List Part} {xs : List Int} (h : ValidP ps) (hl : xs.length = 10) (hx : ∀ x ∈ xs, InMod x) : fitV ps xs = true :=
  fitV_iff.2 ⟨h, by omega, hx, fun k hk => by have := (mem_mayL.1 hk).1; omega⟩
theorem valL_in {ps : List Part} {xs : List Int} (hf : FitV ps xs) : InMod (valL ps (valF xs)) := by
  have hp := hf.1.1
  refine evL_in hf.1.2.2.1 (fun p hp hk => ?_) _ (by omega)
  have h1 := hf.1.fit p hp hk
  have h2 := hf.2.2.2 _ (mem_mayL.2 ⟨h1, p, hp, hk, rfl⟩)
  have h3 := hf.2.2.1 (xs[p.n.toNat]'(by omega)) (List.getElem_mem _)
  rw [at0_eq] at h3
  exact h3
theorem ordL_le (ps : List Part) : (ordL ps).length ≤ 12 := by
  cases h : validF ps with
  | true => rw [ordL_length (validF_iff.1 h)]; exact (validF_iff.1 h).2.1
  | false => simp [ordL, h]
theorem ordL_vals {ps : List Part} (h : ValidP ps) {xs : List Int} (hl : xs.length = 10) (hx : ∀ x ∈ xs, InMod x) : valL (ordL ps) (valF xs) = valL ps (valF xs) ∧ rdsL ps xs = rdsL (ordL ps) xs := by
  have he := ordL_eval h (valF xs)
  refine ⟨by unfold valL; rw [he], ?_⟩
  rw [rdsL_yes (fit_ten h hl hx), rdsL_yes (fit_ten (ordL_valid h) hl hx)]
  unfold readL; rw [he]
theorem renL_value {ps : List Part} {to V moved : List Int} (h : RenOk ps to) (hm : ∀ j, j < to.length → at0 moved j = at0 V (at0 to j).toNat) : valL (renL ps to) (valF V) = valL ps (valF moved) := by
  have hp := h.1.1
  have hl : (renL ps to).length = ps.length := by rw [renL_ok h]; simp
  unfold valL
  rw [hl, evL_ren h _ _ (by omega)]
  dsimp only
  rw [evL_congr h.1.2.2.1 (vals := valF moved) (vals' := fun n => valF V (at0 to n.toNat)) _ (by omega)]
  intro n hn
  obtain ⟨p, hp', hk, e⟩ := evL_sub h.1.2.2.1 (ps.length - 1) (by omega) n hn
  obtain ⟨i, hi, rfl⟩ := List.mem_iff_getElem.1 hp'
  have h1 := h.2.2.2 i hi hk
  have h2 := h.1.reads hi hk
  show at0 V (at0 to n.toNat).toNat = at0 moved n.toNat
  rw [hm _ (by omega)]
/-- the values with which the laws try a formula -/
def valsU (k n : Nat) : List Int := (List.range n).map fun (j : Nat) => ((j : Int) * 7 + (k : Int) * k * 13) % ((k : Int) + 3)
theorem valsU_succ (k n : Nat) : valsU k n ++ [((n : Int) * 7 + (k : Int) * k * 13) % ((k : Int) + 3)] = valsU k (n + 1) := by simp [valsU, List.range_succ]
@[simp] theorem valsU_length (k n : Nat) : (valsU k n).length = n := by simp [valsU]
theorem valsU_in {k n : Nat} (hk : k ≤ 5) : ∀ x ∈ valsU k n, InMod x := by
  intro x hx
  simp only [valsU, List.mem_map] at hx
  obtain ⟨j, _, rfl⟩ := hx
  have h1 := Int.emod_nonneg ((j : Int) * 7 + (k : Int) * k * 13) (show (k : Int) + 3 ≠ 0 by omega)
  have h2 := Int.emod_lt_of_pos ((j : Int) * 7 + (k : Int) * k * 13) (show 0 < (k : Int) + 3 by omega)
  exact ⟨h1, by omega⟩
end SG
