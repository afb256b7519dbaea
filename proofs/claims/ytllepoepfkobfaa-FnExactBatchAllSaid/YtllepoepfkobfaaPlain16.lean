/- Plain data: acts, sessions and batches. No program here. -/
import Derived.Test.YtllepoepfkobfaaPB
namespace SG
set_option linter.unusedSimpArgs false
set_option linter.unusedVariables false
/-- an act of a session -/
noncomputable def actB (gs : List Nd) (a : Act3) : Bool :=
  if a.kind = 0 then cellB gs a.node && inB a.value 0 999
  else if a.kind = 1 then inB a.node 0 ((gs.length : Int) - 1) && (decide (kindAt gs a.node = 2) && decide (a.value = 0))
  else if a.kind = 2 ∨ a.kind = 3 then decide (a.node = 0) && decide (a.value = 0)
  else false
noncomputable def actsB (gs : List Nd) (acts : List Act3) : Bool := validG gs && (decide (acts.length ≤ 30) && acts.all (actB gs))
theorem actsB_iff {gs : List Nd} {acts : List Act3} : actsB gs acts = true ↔ validG gs = true ∧ acts.length ≤ 30 ∧ ∀ a ∈ acts, actB gs a = true := by
  rw [actsB, Bool.and_eq_true, Bool.and_eq_true, decide_eq_true_eq, List.all_eq_true]
theorem actsB_no1 {gs : List Nd} {acts : List Act3} (h : validG gs = false) : actsB gs acts = false := by rw [actsB, h]; rfl
theorem actsB_no2 {gs : List Nd} {acts : List Act3} (h : ¬ acts.length ≤ 30) : actsB gs acts = false := by rw [actsB, decide_eq_false h]; simp
theorem actsB_no3 {gs : List Nd} {acts : List Act3} {i : Nat} (h : i < acts.length) (hb : actB gs acts[i] = false) : actsB gs acts = false := by
  cases hc : actsB gs acts with
  | false => rfl
  | true => rw [(actsB_iff.1 hc).2.2 _ (List.getElem_mem h)] at hb; cases hb
theorem actsB_yes {gs : List Nd} {acts : List Act3} (h1 : validG gs = true) (h2 : acts.length ≤ 30) (h3 : ∀ j (hj : j < acts.length), actB gs acts[j] = true) : actsB gs acts = true :=
  actsB_iff.2 ⟨h1, h2, fun a ha => by obtain ⟨j, hj, rfl⟩ := List.mem_iff_getElem.1 ha; exact h3 j hj⟩
theorem actsB_take {gs : List Nd} {acts : List Act3} (h : actsB gs acts = true) (k : Nat) : actsB gs (acts.take k) = true := by
  obtain ⟨h1, h2, h3⟩ := actsB_iff.1 h
  exact actsB_iff.2 ⟨h1, by rw [List.length_take]; omega, fun a ha => h3 a (List.mem_of_mem_take ha)⟩
theorem act_kind {gs : List Nd} {a : Act3} (h : actB gs a = true) : (a.kind = 0 ∧ cellB gs a.node = true ∧ 0 ≤ a.value ∧ a.value ≤ 999) ∨ (a.kind = 1 ∧ (0 ≤ a.node ∧ a.node < gs.length) ∧ kindAt gs a.node = 2 ∧ a.value = 0) ∨ (a.kind = 2 ∧ a.node = 0 ∧ a.value = 0) ∨ (a.kind = 3 ∧ a.node = 0 ∧ a.value = 0) := by
  unfold actB at h
  split at h
  · rename_i h0
    rw [Bool.and_eq_true, inB_iff] at h
    exact .inl ⟨h0, h.1, h.2.1, h.2.2⟩
  · split at h
    · rename_i h0 h1
      rw [Bool.and_eq_true, Bool.and_eq_true, inB_iff, decide_eq_true_eq, decide_eq_true_eq] at h
      exact .inr (.inl ⟨h1, ⟨h.1.1, by have := h.1.2; omega⟩, h.2.1, h.2.2⟩)
    · split at h
      · rename_i h0 h1 h2
        rw [Bool.and_eq_true, decide_eq_true_eq, decide_eq_true_eq] at h
        rcases h2 with h2 | h2
        · exact .inr (.inr (.inl ⟨h2, h.1, h.2⟩))
        · exact .inr (.inr (.inr ⟨h2, h.1, h.2⟩))
      · cases h
/-- cells after a write -/
def wrt (xs : List Int) (a : Act3) : List Int := if a.kind = 0 then xs.set a.node.toNat a.value else xs
@[simp] theorem wrt_length (xs : List Int) (a : Act3) : (wrt xs a).length = xs.length := by unfold wrt; split <;> simp
theorem wrt_yes {xs : List Int} {a : Act3} (h : a.kind = 0) : wrt xs a = xs.set a.node.toNat a.value := by rw [wrt, if_pos h]
theorem wrt_no {xs : List Int} {a : Act3} (h : a.kind ≠ 0) : wrt xs a = xs := by rw [wrt, if_neg h]
theorem wrt_valid {gs : List Nd} {xs : List Int} {a : Act3} (h : cellsV gs xs = true) (ha : actB gs a = true) : cellsV gs (wrt xs a) = true := by
  by_cases hk : a.kind = 0
  · rw [wrt_yes hk]
    rcases act_kind ha with h1 | h1 | h1 | h1
    · exact set_valid (setOk_iff.2 ⟨h, h1.2.1, h1.2.2⟩)
    · omega
    · omega
    · omega
  · rw [wrt_no hk]; exact h
/-- a session: the cells now, the effects that are stopped, the open batches, how often acts were done, and the cells then -/
structure Ses where
  now : List Int
  stp : List Bool
  opn : Nat
  cnt : Nat
  lst : List Int
def dueB (opn : Nat) (k : Int) : Bool := (decide (k = 0) && decide (opn = 0)) || (decide (k = 3) && decide (opn = 1))
def opnA (opn : Nat) (k : Int) : Nat := if k = 2 then opn + 1 else if k = 3 then opn - 1 else opn
def stpA (st : List Bool) (a : Act3) : List Bool := if a.kind = 1 then st.set a.node.toNat true else st
@[simp] theorem stpA_length (st : List Bool) (a : Act3) : (stpA st a).length = st.length := by unfold stpA; split <;> simp
def Ses.step (s : Ses) (a : Act3) : Ses := ⟨wrt s.now a, stpA s.stp a, opnA s.opn a.kind, if dueB s.opn a.kind = true then s.cnt + 1 else s.cnt, if dueB s.opn a.kind = true then wrt s.now a else s.lst⟩
theorem step_cnt (s : Ses) (a : Act3) : (s.step a).cnt = if dueB s.opn a.kind = true then s.cnt + 1 else s.cnt := rfl
theorem step_opn (s : Ses) (a : Act3) : (s.step a).opn = opnA s.opn a.kind := rfl
theorem step_lst (s : Ses) (a : Act3) : (s.step a).lst = if dueB s.opn a.kind = true then wrt s.now a else s.lst := rfl
def ses0 (n : Nat) (xs : List Int) : Ses := ⟨xs, List.replicate n false, 0, 0, xs⟩
def runA (s : Ses) (acts : List Act3) (k : Nat) : Ses := (acts.take k).foldl Ses.step s
theorem runA_zero (s : Ses) (acts : List Act3) : runA s acts 0 = s := rfl
theorem runA_succ (s : Ses) (acts : List Act3) {k : Nat} (h : k < acts.length) : runA s acts (k + 1) = (runA s acts k).step acts[k] := by
  unfold runA
  rw [List.take_succ_eq_append_getElem h, List.foldl_append]; rfl
theorem runA_now (s : Ses) (acts : List Act3) : ∀ k, k ≤ acts.length → (runA s acts k).now.length = s.now.length ∧ (runA s acts k).stp.length = s.stp.length ∧ (runA s acts k).opn ≤ s.opn + k ∧ (runA s acts k).cnt ≤ s.cnt + k := by
  intro k
  induction k with
  | zero => intro _; exact ⟨rfl, rfl, Nat.le_refl _, Nat.le_refl _⟩
  | succ k ih =>
    intro h
    have h1 := ih (by omega)
    rw [runA_succ s acts (by omega)]
    refine ⟨by simp [Ses.step, h1.1], by simp [Ses.step, h1.2.1], ?_, ?_⟩
    · rw [step_opn]
      unfold opnA
      split
      · omega
      · split <;> omega
    · rw [step_cnt]
      split <;> omega
theorem due_write {opn : Nat} {k : Int} (h : k = 0) : dueB opn k = decide (opn = 0) := by subst h; simp [dueB]
theorem due_stop {opn : Nat} {k : Int} (h : k = 1) : dueB opn k = false := by subst h; simp [dueB]
theorem due_begin {opn : Nat} {k : Int} (h : k = 2) : dueB opn k = false := by subst h; simp [dueB]
theorem due_end {opn : Nat} {k : Int} (h : k = 3) : dueB opn k = decide (opn = 1) := by subst h; simp [dueB]
theorem opn_end {opn : Nat} {k : Int} (h : k = 3) : opnA opn k = opn - 1 := by subst h; simp [opnA]
theorem opn_begin {opn : Nat} {k : Int} (h : k = 2) : opnA opn k = opn + 1 := by subst h; simp [opnA]
theorem opn_else {opn : Nat} {k : Int} (h : k ≠ 2) (h' : k ≠ 3) : opnA opn k = opn := by simp [opnA, h, h']
theorem stp_stop {st : List Bool} {a : Act3} (h : a.kind = 1) : stpA st a = st.set a.node.toNat true := by rw [stpA, if_pos h]
theorem stp_else {st : List Bool} {a : Act3} (h : a.kind ≠ 1) : stpA st a = st := by rw [stpA, if_neg h]
/-- what sessions answer -/
def sesE (n : Nat) (xs : List Int) (acts : List Act3) : Ses := runA (ses0 n xs) acts acts.length
noncomputable def flN (gs : List Nd) (acts : List Act3) : Int := if actsB gs acts = true then ((sesE gs.length (List.replicate gs.length 0) acts).cnt : Int) else -1
noncomputable def flO (gs : List Nd) (acts : List Act3) : Int := if actsB gs acts = true then ((sesE gs.length (List.replicate gs.length 0) acts).opn : Int) else -1
theorem fl_no {gs : List Nd} {acts : List Act3} (h : actsB gs acts = false) : flN gs acts = -1 ∧ flO gs acts = -1 := by simp [flN, flO, h]
theorem fl_yes {gs : List Nd} {acts : List Act3} (h : actsB gs acts = true) : flN gs acts = ((sesE gs.length (List.replicate gs.length 0) acts).cnt : Int) ∧ flO gs acts = ((sesE gs.length (List.replicate gs.length 0) acts).opn : Int) := by simp [flN, flO, h]
noncomputable def sesB (gs : List Nd) (xs : List Int) (acts : List Act3) : Bool := cellsV gs xs && actsB gs acts
theorem sesB_iff {gs : List Nd} {xs : List Int} {acts : List Act3} : sesB gs xs acts = true ↔ cellsV gs xs = true ∧ actsB gs acts = true := by rw [sesB, Bool.and_eq_true]
noncomputable def aftL (gs : List Nd) (xs : List Int) (acts : List Act3) : List Int := if sesB gs xs acts = true then (sesE gs.length xs acts).lst else []
theorem aftL_no {gs : List Nd} {xs : List Int} {acts : List Act3} (h : sesB gs xs acts = false) : aftL gs xs acts = [] := by simp [aftL, h]
theorem aftL_yes {gs : List Nd} {xs : List Int} {acts : List Act3} (h : sesB gs xs acts = true) : aftL gs xs acts = (sesE gs.length xs acts).lst := by simp [aftL, h]
/-- the cells stay valid -/
theorem run_valid {gs : List Nd} {xs : List Int} {acts : List Act3} (h : cellsV gs xs = true) (ha : ∀ a ∈ acts, actB gs a = true) (n : Nat) : ∀ k, k ≤ acts.length → cellsV gs (runA (ses0 n xs) acts k).now = true ∧ cellsV gs (runA (ses0 n xs) acts k).lst = true := by
  intro k
  induction k with
  | zero => intro _; exact ⟨h, h⟩
  | succ k ih =>
    intro hk
    have h1 := ih (by omega)
    rw [runA_succ _ acts (by omega)]
    have h2 := wrt_valid h1.1 (ha _ (List.getElem_mem (show k < acts.length by omega)))
    refine ⟨h2, ?_⟩
    rw [step_lst]
    split
    · exact h2
    · exact h1.2
theorem aft_valid {gs : List Nd} {xs : List Int} {acts : List Act3} (h : sesB gs xs acts = true) : cellsV gs (aftL gs xs acts) = true := by
  obtain ⟨h1, h2⟩ := sesB_iff.1 h
  rw [aftL_yes h]
  exact (run_valid h1 (actsB_iff.1 h2).2.2 _ _ (Nat.le_refl _)).2
theorem aftL_ten (gs : List Nd) (xs : List Int) (acts : List Act3) : (aftL gs xs acts).length ≤ 10 := by
  cases h : sesB gs xs acts with
  | false => rw [aftL_no h]; simp
  | true =>
    have := cellsV_len (aft_valid h)
    omega
/-- how many acts are of some kinds, up to k -/
def numA (p : Act3 → Bool) (acts : List Act3) (k : Nat) : Nat := ((acts.take k).filter p).length
theorem numA_zero (p : Act3 → Bool) (acts : List Act3) : numA p acts 0 = 0 := by simp [numA]
theorem numA_yes {p : Act3 → Bool} {acts : List Act3} {k : Nat} (h : k < acts.length) (hp : p acts[k] = true) : numA p acts (k + 1) = numA p acts k + 1 := by
  unfold numA
  rw [List.take_succ_eq_append_getElem h, List.filter_append]; simp [hp]
theorem numA_no {p : Act3 → Bool} {acts : List Act3} {k : Nat} (h : k < acts.length) (hp : p acts[k] = false) : numA p acts (k + 1) = numA p acts k := by
  unfold numA
  rw [List.take_succ_eq_append_getElem h, List.filter_append]; simp [hp]
theorem numA_le (p : Act3 → Bool) (acts : List Act3) (k : Nat) : numA p acts k ≤ acts.length := by
  unfold numA
  have h1 := List.length_filter_le p (acts.take k)
  have h2 : (acts.take k).length ≤ acts.length := by rw [List.length_take]; omega
  omega
def isFl (a : Act3) : Bool := decide (a.kind = 0) || decide (a.kind = 3)
def isBg (a : Act3) : Bool := decide (a.kind = 2)
theorem run_num (s : Ses) (acts : List Act3) : ∀ k, k ≤ acts.length → (runA s acts k).cnt ≤ s.cnt + numA isFl acts k ∧ (runA s acts k).opn ≤ s.opn + numA isBg acts k := by
  intro k
  induction k with
  | zero => intro _; rw [runA_zero]; omega
  | succ k ih =>
    intro h
    have h1 := ih (by omega)
    have hk : k < acts.length := by omega
    rw [runA_succ s acts hk]
    constructor
    · rw [step_cnt]
      cases hf : isFl acts[k] with
      | true => rw [numA_yes hk hf]; split <;> omega
      | false =>
        rw [numA_no hk hf]
        have hd : dueB (runA s acts k).opn acts[k].kind = false := by
          simp [isFl] at hf
          simp [dueB, hf.1, hf.2]
        rw [hd, if_neg (by decide)]
        omega
    · rw [step_opn]
      cases hf : isBg acts[k] with
      | true =>
        rw [numA_yes hk hf]
        unfold opnA
        split
        · omega
        · split <;> omega
      | false =>
        rw [numA_no hk hf]
        simp [isBg] at hf
        unfold opnA
        rw [if_neg hf]
        split <;> omega
/-- one batch -/
def keepA (a : Act3) : Bool := !decide (a.kind = 2) && !decide (a.kind = 3)
def batL (acts : List Act3) : List Act3 := (⟨2, 0, 0⟩ :: acts.filter keepA) ++ [⟨3, 0, 0⟩]
noncomputable def batchL (gs : List Nd) (acts : List Act3) : List Act3 := if actsB gs acts = true ∧ (batL acts).length ≤ 30 then batL acts else []
theorem batchL_no1 {gs : List Nd} {acts : List Act3} (h : actsB gs acts = false) : batchL gs acts = [] := by simp [batchL, h]
theorem batchL_no2 {gs : List Nd} {acts : List Act3} (h : ¬ (batL acts).length ≤ 30) : batchL gs acts = [] := by rw [batchL, if_neg]; exact fun hh => h hh.2
theorem batchL_yes {gs : List Nd} {acts : List Act3} (h : actsB gs acts = true) (h' : (batL acts).length ≤ 30) : batchL gs acts = batL acts := by rw [batchL, if_pos ⟨h, h'⟩]
theorem batchL_some {gs : List Nd} {acts : List Act3} (h : batchL gs acts ≠ []) : batchL gs acts = batL acts ∧ actsB gs acts = true ∧ (batL acts).length ≤ 30 := by
  unfold batchL at h ⊢
  split
  · rename_i h1; exact ⟨rfl, h1.1, h1.2⟩
  · rename_i h1; rw [if_neg h1] at h; exact absurd rfl h
theorem batchL_length (gs : List Nd) (acts : List Act3) : (batchL gs acts).length ≤ 30 := by
  unfold batchL
  split
  · rename_i h1; exact h1.2
  · simp
theorem bat_valid {gs : List Nd} {acts : List Act3} (h : actsB gs acts = true) (hl : (batL acts).length ≤ 30) : actsB gs (batL acts) = true := by
  obtain ⟨h1, h2, h3⟩ := actsB_iff.1 h
  refine actsB_iff.2 ⟨h1, hl, fun a ha => ?_⟩
  unfold batL at ha
  simp only [List.cons_append, List.mem_cons, List.mem_append, List.mem_filter, List.not_mem_nil, or_false] at ha
  rcases ha with rfl | ⟨ha, _⟩ | rfl
  · simp [actB]
  · exact h3 a ha
  · simp [actB]
theorem run_keep {gs : List Nd} : ∀ (l : List Act3) (s : Ses), s.opn = 1 → (∀ a ∈ l, keepA a = true ∧ actB gs a = true) → (l.foldl Ses.step s).opn = 1 ∧ (l.foldl Ses.step s).cnt = s.cnt ∧ (l.foldl Ses.step s).now = l.foldl wrt s.now
  | [], s, h, _ => ⟨h, rfl, rfl⟩
  | a :: l, s, h, hl => by
    have ha := hl a (by simp)
    have hk : a.kind = 0 ∨ a.kind = 1 := by
      have h1 := ha.1
      simp [keepA] at h1
      rcases act_kind ha.2 with h2 | h2 | h2 | h2
      · exact .inl h2.1
      · exact .inr h2.1
      · exact absurd h2.1 h1.1
      · exact absurd h2.1 h1.2
    have ho : (s.step a).opn = 1 := by show opnA _ _ = 1; rw [opn_else (by omega) (by omega)]; exact h
    have hd : dueB s.opn a.kind = false := by
      rcases hk with hk | hk
      · rw [due_write hk, h]; rfl
      · exact due_stop hk
    have ih := run_keep l (s.step a) ho fun b hb => hl b (by simp [hb])
    refine ⟨ih.1, ?_, ih.2.2⟩
    rw [List.foldl_cons, ih.2.1, step_cnt]
    rw [hd, if_neg (by decide)]
theorem wrt_keep : ∀ (l : List Act3) (xs : List Int), (l.filter keepA).foldl wrt xs = l.foldl wrt xs
  | [], _ => rfl
  | a :: l, xs => by
    rw [List.filter_cons]
    split
    · exact wrt_keep l _
    · rename_i h
      rw [List.foldl_cons, wrt_no (xs := xs) (a := a) (fun h0 => by simp [keepA, h0] at h)]
      exact wrt_keep l _
theorem bat_run {gs : List Nd} {acts : List Act3} (h : actsB gs acts = true) (n : Nat) (xs : List Int) : (sesE n xs (batL acts)).cnt = 1 ∧ (sesE n xs (batL acts)).opn = 0 ∧ (sesE n xs (batL acts)).lst = acts.foldl wrt xs := by
  obtain ⟨_, _, h3⟩ := actsB_iff.1 h
  unfold sesE runA
  rw [List.take_length, batL]
  simp only [List.foldl_append, List.foldl_cons, List.foldl_nil]
  have hk := run_keep (gs := gs) (acts.filter keepA) ((ses0 n xs).step ⟨2, 0, 0⟩) rfl fun a ha => by
    rw [List.mem_filter] at ha
    exact ⟨ha.2, h3 a ha.1⟩
  generalize hg : (acts.filter keepA).foldl Ses.step ((ses0 n xs).step ⟨2, 0, 0⟩) = s at *
  obtain ⟨k1, k2, k3⟩ := hk
  have hd : dueB s.opn 3 = true := by rw [k1]; rfl
  have hc : s.cnt = 0 := by rw [k2]; rfl
  refine ⟨?_, ?_, ?_⟩
  · show (if dueB s.opn 3 = true then _ else _) = 1
    rw [if_pos hd, hc]
  · show opnA s.opn 3 = 0
    rw [k1]; rfl
  · show (if dueB s.opn 3 = true then wrt s.now _ else _) = _
    rw [if_pos hd, wrt_no (by decide), k3]
    exact wrt_keep acts xs
def wrtUp (xs : List Int) (acts : List Act3) (k : Nat) : List Int := (acts.take k).foldl wrt xs
theorem wrtUp_zero (xs : List Int) (acts : List Act3) : wrtUp xs acts 0 = xs := rfl
theorem wrtUp_succ (xs : List Int) (acts : List Act3) {k : Nat} (h : k < acts.length) : wrtUp xs acts (k + 1) = wrt (wrtUp xs acts k) acts[k] := by
  unfold wrtUp
  rw [List.take_succ_eq_append_getElem h, List.foldl_append]; rfl
theorem wrtUp_length (xs : List Int) (acts : List Act3) (k : Nat) : (wrtUp xs acts k).length = xs.length := by
  unfold wrtUp
  generalize acts.take k = l
  induction l generalizing xs with
  | nil => rfl
  | cons a l ih => rw [List.foldl_cons, ih, wrt_length]
theorem wrtUp_full (xs : List Int) (acts : List Act3) : wrtUp xs acts acts.length = acts.foldl wrt xs := by rw [wrtUp, List.take_length]
theorem bat_after {gs : List Nd} {xs : List Int} {acts : List Act3} (h : sesB gs xs acts = true) (hl : (batL acts).length ≤ 30) : aftL gs xs (batL acts) = wrtUp xs acts acts.length := by
  obtain ⟨h1, h2⟩ := sesB_iff.1 h
  rw [aftL_yes (sesB_iff.2 ⟨h1, bat_valid h2 hl⟩), (bat_run h2 _ _).2.2, wrtUp_full]
theorem bat_fl {gs : List Nd} {acts : List Act3} (h : actsB gs acts = true) (hl : (batL acts).length ≤ 30) : flN gs (batL acts) = 1 ∧ flO gs (batL acts) = 0 := by
  have hb := bat_run h gs.length (List.replicate gs.length 0)
  have hy := fl_yes (bat_valid h hl)
  rw [hy.1, hy.2, hb.1, hb.2.1]
  exact ⟨rfl, rfl⟩
theorem fl_num {gs : List Nd} {acts : List Act3} (h : actsB gs acts = true) : 0 ≤ flN gs acts ∧ flN gs acts ≤ numA isFl acts acts.length ∧ 0 ≤ flO gs acts ∧ flO gs acts ≤ numA isBg acts acts.length := by
  have hn := run_num (ses0 gs.length (List.replicate gs.length 0)) acts acts.length (Nat.le_refl _)
  have hy := fl_yes h
  have hn2 : (sesE gs.length (List.replicate gs.length 0) acts).cnt ≤ 0 + numA isFl acts acts.length ∧ (sesE gs.length (List.replicate gs.length 0) acts).opn ≤ 0 + numA isBg acts acts.length := hn
  rw [hy.1, hy.2]
  omega
def batUp (acts : List Act3) (k : Nat) : List Act3 := ⟨2, 0, 0⟩ :: (acts.take k).filter keepA
theorem batUp_zero (acts : List Act3) : batUp acts 0 = [⟨2, 0, 0⟩] := by simp [batUp]
theorem batUp_yes {acts : List Act3} {k : Nat} (h : k < acts.length) (hk : keepA acts[k] = true) : batUp acts k ++ [acts[k]] = batUp acts (k + 1) := by
  unfold batUp
  rw [List.take_succ_eq_append_getElem h, List.filter_append]; simp [hk]
theorem batUp_no {acts : List Act3} {k : Nat} (h : k < acts.length) (hk : keepA acts[k] = false) : batUp acts k = batUp acts (k + 1) := by
  unfold batUp
  rw [List.take_succ_eq_append_getElem h, List.filter_append]; simp [hk]
theorem batUp_full (acts : List Act3) : batUp acts acts.length ++ [⟨3, 0, 0⟩] = batL acts := by simp [batUp, batL]
theorem batUp_length (acts : List Act3) (k : Nat) : (batUp acts k).length ≤ acts.length + 1 := by
  unfold batUp
  have h1 := List.length_filter_le keepA (acts.take k)
  have h2 : (acts.take k).length ≤ acts.length := by rw [List.length_take]; omega
  simp only [List.length_cons]
  omega
theorem aftL_some {gs : List Nd} {xs : List Int} {acts : List Act3} (h : aftL gs xs acts ≠ []) : sesB gs xs acts = true := by
  unfold aftL at h
  split at h
  · assumption
  · exact absurd rfl h
theorem flN_some {gs : List Nd} {acts : List Act3} (h : ¬ flN gs acts < 0) : actsB gs acts = true := by
  cases hc : actsB gs acts with
  | true => rfl
  | false => rw [(fl_no hc).1] at h; exact absurd (by decide) h
end SG
