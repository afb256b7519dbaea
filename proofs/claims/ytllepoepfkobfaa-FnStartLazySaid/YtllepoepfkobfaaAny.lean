/- Regions that draw their order: reads may be taken ahead of what writes, as long as they would read the same behind it. -/
import Derived.Test.YtllepoepfkobfaaBase
import Derived.Orders
namespace SG
open Go
set_option linter.unusedVariables false
section
variable {P : Program} {ops : Array Oper} {Q : Exit → Act → World → Prop} {md : Region.Mode}

def wpAnyJ (P : Program) (md : Region.Mode) (ops : Array Oper) (Q : Exit → Act → World → Prop) (J : Array Bool → World → Prop) : Nat → Array Bool → Act → World → Prop
  | 0, l, a, w => J l w ∧ Region.ready md ops l = [] ∧ Q .normal a w
  | f + 1, l, a, w => J l w ∧ (Region.ready md ops l = [] → Q .normal a w) ∧ ∀ i ∈ Region.ready md ops l, wpOp P ops Q i (wpAnyJ P md ops Q J f (l.setIfInBounds i true)) a w

theorem wpAnyJ.forget {J : Array Bool → World → Prop} : ∀ {f : Nat} {l : Array Bool} {a : Act} {w : World}, wpAnyJ P md ops Q J f l a w → wpAny P md ops Q f l a w := by
  intro f
  induction f with
  | zero => intro l a w h; exact h.2
  | succ f ih => intro l a w h; exact ⟨h.2.1, fun i hi => wpOp_mono (fun _ _ => ih) (h.2.2 i hi)⟩
theorem wpAnyJ.mono {J J' : Array Bool → World → Prop} (hJ : ∀ l w, J l w → J' l w) : ∀ {f : Nat} {l : Array Bool} {a : Act} {w : World}, wpAnyJ P md ops Q J f l a w → wpAnyJ P md ops Q J' f l a w := by
  intro f
  induction f with
  | zero => intro l a w h; exact ⟨hJ _ _ h.1, h.2⟩
  | succ f ih => intro l a w h; exact ⟨hJ _ _ h.1, h.2.1, fun i hi => wpOp_mono (fun _ _ => ih) (h.2.2 i hi)⟩
theorem wpAnyJ.here {J : Array Bool → World → Prop} {f : Nat} {l : Array Bool} {a : Act} {w : World} (h : wpAnyJ P md ops Q J f l a w) : J l w := by
  cases f with
  | zero => exact h.1
  | succ f => exact h.1

/-- an operation's own run is what it was -/
def Alike (ops : Array Oper) (oi : Oper) (a a' : Act) : Prop := execOp a'.eval oi = execOp a.eval oi ∧ Region.wanted oi (yielded ops a'.tmps) = Region.wanted oi (yielded ops a.tmps)

theorem wpOp_put' {j : Nat} {oi oj : Oper} {v : Value} (hj : ops[j]? = some oj) (hap : oi.apart ops oj = true)
    (hsi : ∀ cs b, oi.op ≠ .select cs b) (hsj : ∀ cs b, oj.op ≠ .select cs b)
    (hQ : ∀ c a w, Q (.panic c) (a.put oi.dst v) w → Q (.panic c) a w) {K : Act → World → Prop} {a : Act} {w : World}
    (h : wpOp P ops Q j K (a.put oi.dst v) w) :
    wpOp P ops Q j (fun a' w' => Alike ops oi a a' ∧ K (a'.put oi.dst v) w') a w := by
  obtain ⟨h1, h2, h3⟩ := Oper.apart_spec hap
  have keep : ∀ u, Alike ops oi a (a.put oj.dst u) := fun u => ⟨execOp_put oi hsi a oj.dst u h3, wanted_put oi a oj.dst u h3⟩
  unfold wpOp at *
  simp only [hj] at *
  rw [wanted_put oj a oi.dst v h1] at h
  split
  · rename_i hw
    simp only [hw, if_true] at h
    rcases h with h | ⟨hasks, hlets⟩
    case inr => exact .inr ⟨by unfold Oper.asks at *; rw [execOp_put oj hsj a oi.dst v h1] at hasks; exact hasks, hlets⟩
    refine .inl ?_
    unfold Oper.wp at *
    rw [execOp_put oj hsj a oi.dst v h1] at h
    generalize (execOp a.eval oj).run P w = r at *
    cases r with
    | ok n w' =>
      cases n <;> simp only [Oper.upon] at h ⊢
      case value u => exact ⟨keep u, by rw [← Act.put_comm a v u h2]; exact h⟩
      case skip => exact ⟨keep _, by rw [← Act.put_comm a v undef h2]; exact h⟩
      case defer d =>
        refine ⟨⟨execOp_put oi hsi _ oj.dst _ h3, wanted_put oi _ oj.dst _ h3⟩, ?_⟩
        rw [← Act.put_comm _ v undef h2, ← Act.put_defers]
        exact h
      case enter f args =>
        refine Calls.mono h fun e w'' he => ?_
        cases e with
        | returned u => exact ⟨keep u, by rw [← Act.put_comm a v u h2]; exact he⟩
        | panicked c => exact hQ _ _ _ he
        | outgrown => exact he
      case row row args => exact Rows.mono h fun u w'' he => ⟨keep u, by rw [← Act.put_comm a v u h2]; exact he⟩
    | halt x w' =>
      cases x <;> simp only [Oper.upon] at h ⊢
      case panic u => exact hQ _ _ _ h
  · rename_i hw
    simp only [hw] at h
    exact ⟨keep _, by rw [← Act.put_comm a v undef h2]; exact h⟩

/-- what may come ahead of operation i, S: all others wait for it -/
def Region.early (md : Region.Mode) (ops : Array Oper) (l : Array Bool) (S : Array Bool) (i : Nat) : Bool :=
  match ops[i]? with
  | none => false
  | some oi => (List.range ops.size).all fun j => j == i || match ops[j]? with
    | none => true
    | some oj => if S.getD j false then l.getD j true || oi.apart ops oj
        else !l.getD j true && oj.after.any (fun e => Region.binds md e && (e.on == i || (!S.getD e.on false && decide (e.on < ops.size) && !l.getD e.on true)))

/-- no writer is listed but those of the base and those of S -/
def quietTill (eff base S l : Array Bool) : Bool := (List.range eff.size).all fun j => !eff.getD j false || !l.getD j false || base.getD j false || S.getD j false

theorem getD_set (l : Array Bool) (i j : Nat) (d : Bool) : (l.setIfInBounds i true).getD j d = if i = j ∧ i < l.size then true else l.getD j d := by
  by_cases h : i = j
  · subst h
    by_cases hl : i < l.size
    · simp [hl]
    · simp [hl]
  · simp [Array.getElem?_setIfInBounds_ne h, h]

theorem wpAnyJ_earlyT {J : Array Bool → World → Prop} {i : Nat} {oi : Oper} {v : Value} {eff base S : Array Bool} {R : World → Prop} {T : Act → Prop} (hi : ops[i]? = some oi) (hsel : Region.noSelect ops = true)
    (heff : eff.getD i false = false)
    (hJ : ∀ l w, J (l.setIfInBounds i true) w → J l w) (hTA : ∀ a a', Alike ops oi a a' → T a → T a') (hT : ∀ a w K, T a → R w → K (a.put oi.dst v) w → wpOp P ops Q i K a w)
    (hQ : ∀ c a w, Q (.panic c) (a.put oi.dst v) w → Q (.panic c) a w) :
    ∀ (f : Nat) (l : Array Bool) (a : Act) (w : World), Region.early md ops l S i = true → i ∈ Region.ready md ops l → (∀ j, l.getD j false = true → base.getD j false = true ∨ S.getD j false = true) →
      (∀ j, ops[j]? ≠ none → j ≠ i → S.getD j false = false → l.getD j true = false) →
      T a →
      wpAnyJ P md ops Q (fun l w => J l w ∧ (quietTill eff base S l = true → R w)) f (l.setIfInBounds i true) (a.put oi.dst v) w → wpAnyJ P md ops Q J (f + 1) l a w := by
  have noS := Region.noSelect_spec hsel
  intro f
  induction f with
  | zero =>
    intro l a w he hr hb hout hta H
    have hqt : quietTill eff base S (l.setIfInBounds i true) = true := by
      simp only [quietTill, List.all_eq_true, List.mem_range]
      intro j hj
      by_cases hji : i = j
      · subst hji; simp only [heff]; rfl
      · rw [getD_set]
        rw [if_neg (fun h => hji h.1)]
        cases hl : l.getD j false with
        | false => simp
        | true => rcases hb j hl with h | h <;> simp [h]
    have hRw := H.here.2 hqt
    refine ⟨hJ _ _ H.here.1, fun h => (by rw [h] at hr; cases hr), fun j hj => ?_⟩
    by_cases hji : j = i
    · subst hji
      exact hT a w _ hta hRw (wpAnyJ.mono (fun _ _ h => h.1) H)
    · have := ready_mono hj hji
      rw [H.2.1] at this
      cases this
  | succ f ih =>
    intro l a w he hr hb hout hta H
    have hqt : quietTill eff base S (l.setIfInBounds i true) = true := by
      simp only [quietTill, List.all_eq_true, List.mem_range]
      intro j hj
      by_cases hji : i = j
      · subst hji; simp only [heff]; rfl
      · rw [getD_set]
        rw [if_neg (fun h => hji h.1)]
        cases hl : l.getD j false with
        | false => simp
        | true => rcases hb j hl with h | h <;> simp [h]
    have hRw := H.here.2 hqt
    refine ⟨hJ _ _ H.here.1, fun h => (by rw [h] at hr; cases hr), fun j hj => ?_⟩
    by_cases hji : j = i
    · subst hji
      exact hT a w _ hta hRw (wpAnyJ.mono (fun _ _ h => h.1) H)
    · have h1 := H.2.2 j (ready_mono hj hji)
      obtain ⟨hjun, oj, hoj, hall⟩ := mem_ready.1 hj
      have hjs : j < ops.size := (Array.getElem?_eq_some_iff.1 hoj).1
      have hiun := (mem_ready.1 hr).1
      -- j is one of S
      have hE := he
      simp only [Region.early, hi, List.all_eq_true, List.mem_range] at hE
      have hEj := hE j hjs
      simp only [hoj, Bool.or_eq_true, beq_iff_eq, hji, false_or] at hEj
      have hS : S.getD j false = true := by
        cases hSj : S.getD j false with
        | true => rfl
        | false =>
          rw [hSj] at hEj
          simp only [Bool.false_eq_true, if_false, Bool.and_eq_true] at hEj
          obtain ⟨e, hem, hebb⟩ := Array.any_eq_true'.1 hEj.2
          simp only [Bool.and_eq_true, Bool.or_eq_true, beq_iff_eq, Bool.not_eq_true', decide_eq_true_eq] at hebb
          obtain ⟨hbind, hon⟩ := hebb
          have hlist := hall e hem hbind
          rcases hon with hon | hon
          · rw [hon] at hlist
            have : l.getD i false = false := by
              rcases Nat.lt_or_ge i l.size with h' | h'
              · simp [h'] at hiun ⊢; exact hiun
              · simp [Array.getElem?_eq_none h']
            rw [this] at hlist; cases hlist
          · have h0 := hon.2
            have : l.getD e.on false = false := by
              rcases Nat.lt_or_ge e.on l.size with h' | h'
              · simp [h'] at h0 ⊢; exact h0
              · simp [Array.getElem?_eq_none h']
            rw [this] at hlist; cases hlist
      have hap : oi.apart ops oj = true := by
        rw [hS] at hEj
        simp only [if_true, Bool.or_eq_true, hjun, Bool.false_eq_true, false_or] at hEj
        exact hEj
      have h2 := wpOp_put' hoj hap (fun cs b => noS i oi cs b hi) (fun cs b => noS j oj cs b hoj) hQ h1
      refine wpOp_mono (fun a' w' h3 => ?_) h2
      obtain ⟨hal, hK⟩ := h3
      refine ih (l.setIfInBounds j true) a' w' ?_ (ready_mono hr (Ne.symm hji)) (fun k hk => ?_) (fun k hk hki hSk => ?_) (hTA _ _ hal hta) ?_
      · simp only [Region.early, hi, List.all_eq_true, List.mem_range]
        intro k hk
        have hEk := hE k hk
        by_cases hki : k = i
        · simp [hki]
        · cases hok : ops[k]? with
          | none => simp
          | some ok =>
            simp only [hok, Bool.or_eq_true, beq_iff_eq, hki, false_or] at hEk ⊢
            cases hSk : S.getD k false with
            | true =>
              rw [hSk] at hEk
              simp only [if_true, Bool.or_eq_true] at hEk ⊢
              rw [getD_set]
              split
              · exact .inl rfl
              · exact hEk
            | false =>
              rw [hSk] at hEk
              simp only [Bool.false_eq_true, if_false, Bool.and_eq_true, Bool.not_eq_true'] at hEk ⊢
              have hjk : j ≠ k := fun e => by subst e; rw [hS] at hSk; cases hSk
              refine ⟨by rw [getD_set, if_neg (fun h => hjk h.1)]; exact hEk.1, ?_⟩
              obtain ⟨e, hem, hebb⟩ := Array.any_eq_true'.1 hEk.2
              refine Array.any_eq_true'.2 ⟨e, hem, ?_⟩
              simp only [Bool.and_eq_true, Bool.or_eq_true, beq_iff_eq, Bool.not_eq_true', decide_eq_true_eq] at hebb ⊢
              refine ⟨hebb.1, hebb.2.imp id fun h => ⟨h.1, ?_⟩⟩
              have hje : j ≠ e.on := fun e' => by rw [← e', hS] at h; cases h.1.1
              rw [getD_set, if_neg (fun h => hje h.1)]; exact h.2
      · rw [getD_set] at hk
        split at hk
        · rename_i h; rw [← h.1]; exact .inr hS
        · exact hb k hk
      · have hjk : j ≠ k := fun e => by subst e; rw [hS] at hSk; cases hSk
        rw [getD_set, if_neg (fun h => hjk h.1)]
        exact hout k hk hki hSk
      · rw [Array.setIfInBounds_comm _ _ hji]
        exact hK
theorem wpAnyJ_early {J : Array Bool → World → Prop} {i : Nat} {oi : Oper} {v : Value} {eff base S : Array Bool} {R : World → Prop} {e0 : Sem Next} (hi : ops[i]? = some oi) (hsel : Region.noSelect ops = true)
    (heff : eff.getD i false = false)
    (hJ : ∀ l w, J (l.setIfInBounds i true) w → J l w) (hR : ∀ w, R w → e0.run P w = .ok (.value v) w)
    (hQ : ∀ c a w, Q (.panic c) (a.put oi.dst v) w → Q (.panic c) a w)
    (f : Nat) (l : Array Bool) (a : Act) (w : World) (he : Region.early md ops l S i = true) (hr : i ∈ Region.ready md ops l) (hb : ∀ j, l.getD j false = true → base.getD j false = true ∨ S.getD j false = true)
    (ho : ∀ j, ops[j]? ≠ none → j ≠ i → S.getD j false = false → l.getD j true = false)
    (hea : execOp a.eval oi = e0) (hwa : Region.wanted oi (yielded ops a.tmps) = true)
    (H : wpAnyJ P md ops Q (fun l w => J l w ∧ (quietTill eff base S l = true → R w)) f (l.setIfInBounds i true) (a.put oi.dst v) w) : wpAnyJ P md ops Q J (f + 1) l a w :=
  wpAnyJ_earlyT (T := fun a => execOp a.eval oi = e0 ∧ Region.wanted oi (yielded ops a.tmps) = true) hi hsel heff hJ (fun a a' h1 h2 => ⟨h1.1.trans h2.1, h1.2.trans h2.2⟩)
    (fun a w K hta hRw hK => by
      unfold wpOp
      simp only [hi, hta.2, if_true]
      refine .inl ?_
      unfold Oper.wp
      rw [hta.1, hR w hRw]
      exact hK) hQ f l a w he hr hb ho ⟨hea, hwa⟩ H
theorem wpAnyJ_unwant {J : Array Bool → World → Prop} {i : Nat} {oi : Oper} {eff base S : Array Bool} {R : World → Prop} (hi : ops[i]? = some oi) (hsel : Region.noSelect ops = true)
    (heff : eff.getD i false = false)
    (hJ : ∀ l w, J (l.setIfInBounds i true) w → J l w) (hR : ∀ w, R w)
    (hQ : ∀ c a w, Q (.panic c) (a.put oi.dst undef) w → Q (.panic c) a w)
    (f : Nat) (l : Array Bool) (a : Act) (w : World) (he : Region.early md ops l S i = true) (hr : i ∈ Region.ready md ops l) (hb : ∀ j, l.getD j false = true → base.getD j false = true ∨ S.getD j false = true)
    (ho : ∀ j, ops[j]? ≠ none → j ≠ i → S.getD j false = false → l.getD j true = false)
    (hwa : Region.wanted oi (yielded ops a.tmps) = false)
    (H : wpAnyJ P md ops Q J f (l.setIfInBounds i true) (a.put oi.dst undef) w) : wpAnyJ P md ops Q J (f + 1) l a w :=
  wpAnyJ_earlyT (T := fun a => Region.wanted oi (yielded ops a.tmps) = false) (R := R) (base := base) (S := S) hi hsel heff hJ (fun a a' h1 h2 => h1.2.trans h2)
    (fun a w K hta hRw hK => by
      unfold wpOp
      simp only [hi, hta]
      exact hK) hQ f l a w he hr hb ho hwa (wpAnyJ.mono (fun _ _ h => ⟨h, fun _ => hR _⟩) H)
end
/-- a read that was taken early -/
structure Pend where
  base : Array Bool
  early : Array Bool
  fact : World → Prop
def JJ (eff : Array Bool) (ps : List Pend) (l : Array Bool) (w : World) : Prop := ∀ p ∈ ps, quietTill eff p.base p.early l = true → p.fact w
theorem quietTill_set {eff base S l : Array Bool} {i : Nat} (h : eff.getD i false = false) : quietTill eff base S (l.setIfInBounds i true) = quietTill eff base S l := by
  have key : ∀ j, (!eff.getD j false || !(l.setIfInBounds i true).getD j false || base.getD j false || S.getD j false) = (!eff.getD j false || !l.getD j false || base.getD j false || S.getD j false) := by
    intro j
    rw [getD_set]
    split
    · rename_i hij; rw [← hij.1, h]; simp
    · rfl
  unfold quietTill
  simp only [key]
theorem JJ.unset {eff : Array Bool} {ps : List Pend} {i : Nat} (h : eff.getD i false = false) : ∀ l w, JJ eff ps (l.setIfInBounds i true) w → JJ eff ps l w :=
  fun l w hj p hp hq => hj p hp (by rw [quietTill_set h]; exact hq)
end SG
