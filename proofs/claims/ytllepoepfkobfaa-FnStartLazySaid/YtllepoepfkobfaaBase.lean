/- The base of a small separation logic over the model's wp: slots as an association list, memory as a list of assertions on disjoint sets of blocks. -/
import Derived.WalkKit
import Derived.Deep.Quiet
namespace SG
open Go Go.RowKit

/-! ## slots -/
abbrev Env := List (Nat × Value)
def look : Env → Nat → Option Value
  | [], _ => none
  | (t, v) :: r, n => bif Nat.beq t n then some v else look r n

structure Fr (N : Nat) (a : Act) (F : Env) : Prop where
  size : a.tmps.size = N
  defers : a.defers = []
  val : ∀ t v, look F t = some v → a.tmps[t]? = some v

def ev (F : Env) : Operand → Option Value
  | .tmp t => look F t
  | .const v => some v
  | .global g => some (.pointer (some ⟨g, 0, none⟩))
  | .func f => some (.func (.func f) #[] #[])

theorem Fr.ev {N : Nat} {a : Act} {F : Env} (h : Fr N a F) {x : Operand} {v : Value} (hx : ev F x = some v) : a.eval x = v := by
  cases x with
  | tmp t =>
    have := h.val t v hx
    simp [Act.eval, Array.getD_eq_getD_getElem?, this]
  | const c => simpa [SG.ev, Act.eval] using hx
  | global g => simpa [SG.ev, Act.eval] using hx
  | func f => simpa [SG.ev, Act.eval] using hx

def upd (F : Env) : Option Tmp → Value → Env
  | some d, v => (d, v) :: F
  | none, _ => F

def fits (N : Nat) : Option Tmp → Bool
  | some d => Nat.blt d N
  | none => true

theorem Fr.put {N : Nat} {a : Act} {F : Env} (h : Fr N a F) (dst : Option Tmp) (v : Value) (hd : fits N dst = true) : Fr N (a.put dst v) (upd F dst v) := by
  cases dst with
  | none => exact h
  | some d =>
    have hd' : d < N := by simpa [fits, Nat.blt_eq] using hd
    refine ⟨by simp [Act.put, h.size], h.defers, fun t u hl => ?_⟩
    simp only [upd, look] at hl
    cases hb : Nat.beq d t with
    | true =>
      have : d = t := Nat.eq_of_beq_eq_true hb
      subst this
      rw [hb] at hl
      simp only [cond_true, Option.some.injEq] at hl
      subst hl
      simp [Act.put, h.size, hd']
    | false =>
      have hne : d ≠ t := Nat.ne_of_beq_eq_false hb
      rw [hb] at hl
      simp only [cond_false] at hl
      simp only [Act.put]
      rw [Array.getElem?_setIfInBounds_ne hne]
      exact h.val t u hl

/-- what is asked of fewer slots -/
def Keeps (F F' : Env) : Prop := ∀ t v, look F' t = some v → look F t = some v
theorem Fr.keeps {N : Nat} {a : Act} {F F' : Env} (h : Fr N a F) (hk : Keeps F F') : Fr N a F' := ⟨h.size, h.defers, fun t v hl => h.val t v (hk t v hl)⟩
theorem Keeps.nil {F : Env} : Keeps F [] := fun _ _ h => by simp [look] at h
theorem Keeps.cons {F F' : Env} {t : Nat} {v : Value} (h : look F t = some v) (hk : Keeps F F') : Keeps F ((t, v) :: F') := by
  intro s u hl
  simp only [look] at hl
  cases hb : Nat.beq t s with
  | true =>
    have : t = s := Nat.eq_of_beq_eq_true hb
    subst this
    rw [hb] at hl
    simp only [cond_true, Option.some.injEq] at hl
    subst hl
    exact h
  | false =>
    rw [hb] at hl
    exact hk s u hl
theorem Keeps.refl {F : Env} : Keeps F F := fun _ _ h => h

/-! ## memory -/
abbrev Heap := Nat → Option Obj
abbrev Asn := Heap → Prop
open Classical in
noncomputable def on (h : Heap) (D : Nat → Prop) : Heap := fun g => if D g then h g else none

def Sat : List Asn → Heap → Prop
  | [], _ => True
  | A :: L, h => ∃ D : Nat → Prop, A (on h D) ∧ Sat L (on h (fun g => ¬ D g))

theorem on_on (h : Heap) (D E : Nat → Prop) : on (on h D) E = on h (fun g => D g ∧ E g) := by
  funext g
  by_cases h1 : D g <;> by_cases h2 : E g <;> simp [on, h1, h2]
theorem on_congr {h : Heap} {D E : Nat → Prop} (e : ∀ g, D g ↔ E g) : on h D = on h E := by
  have : D = E := funext fun g => propext (e g)
  rw [this]

inductive Pick : List Asn → Asn → List Asn → Prop
  | head {A L} : Pick (A :: L) A L
  | tail {A B L L'} : Pick L A L' → Pick (B :: L) A (B :: L')

theorem Pick.sat {L L' : List Asn} {A : Asn} (p : Pick L A L') : ∀ {h : Heap}, Sat L h → Sat (A :: L') h := by
  induction p with
  | head => exact fun h => h
  | @tail A B L L' p ih =>
    rintro h ⟨D, hB, hL⟩
    obtain ⟨E, hA, hL'⟩ := ih hL
    refine ⟨fun g => ¬ D g ∧ E g, by rwa [on_on] at hA, D, ?_, ?_⟩
    · rw [on_on]
      rw [on_congr (E := D) (fun g => ⟨fun h => h.2, fun h => ⟨fun h' => h'.1 h, h⟩⟩)]
      exact hB
    · rw [on_on] at hL' ⊢
      rw [on_congr (E := fun g => ¬ D g ∧ ¬ E g) (fun g => ⟨fun h => ⟨h.2, fun h' => h.1 ⟨h.2, h'⟩⟩, fun h => ⟨fun h' => h.2 h'.2, h.1⟩⟩)]
      exact hL'

theorem Pick.back {L L' : List Asn} {A : Asn} (p : Pick L A L') : ∀ {h : Heap}, Sat (A :: L') h → Sat L h := by
  induction p with
  | head => exact fun h => h
  | @tail A B L L' p ih =>
    rintro h ⟨E, hA, D, hB, hL'⟩
    refine ⟨fun g => ¬ E g ∧ D g, by rwa [on_on] at hB, ih ⟨E, ?_, ?_⟩⟩
    · rw [on_on]
      rw [on_congr (E := E) (fun g => ⟨fun h => h.2, fun h => ⟨fun h' => h'.1 h, h⟩⟩)]
      exact hA
    · rw [on_on] at hL' ⊢
      rw [on_congr (E := fun g => ¬ E g ∧ ¬ D g) (fun g => ⟨fun h => ⟨h.2, fun h' => h.1 ⟨h.2, h'⟩⟩, fun h => ⟨fun h' => h.2 h'.2, h.1⟩⟩)]
      exact hL'

theorem Sat.append {L' : List Asn} : ∀ {L : List Asn} {h : Heap} (E : Nat → Prop), Sat L' (on h E) → Sat L (on h (fun g => ¬ E g)) → Sat (L' ++ L) h := by
  induction L' with
  | nil =>
    intro L h E _ h2
    -- what is left out does no harm: but Sat is not monotone in the heap: so it is taken with the whole of E thrown away
    induction L generalizing h E with
    | nil => trivial
    | cons A L ih =>
      obtain ⟨D, hA, hL⟩ := h2
      refine ⟨fun g => ¬ E g ∧ D g, by rwa [on_on] at hA, ?_⟩
      refine ih (h := on h (fun g => ¬ (¬ E g ∧ D g))) E trivial ?_
      rw [on_on] at hL ⊢
      rw [on_congr (E := fun g => ¬ E g ∧ ¬ D g) (fun g => ⟨fun h => ⟨h.2, fun h' => h.1 ⟨h.2, h'⟩⟩, fun h => ⟨fun h' => h.2 h'.2, h.1⟩⟩)]
      exact hL
  | cons A L' ih =>
    rintro L h E ⟨D, hA, hL'⟩ h2
    refine ⟨fun g => E g ∧ D g, by rwa [on_on] at hA, ih (fun g => E g ∧ ¬ D g) ?_ ?_⟩
    · rw [on_on] at hL' ⊢
      rw [on_congr (E := fun g => E g ∧ ¬ D g) (fun g => ⟨fun h => h.2, fun h => ⟨fun h' => h.2 h'.2, h⟩⟩)]
      exact hL'
    · rw [on_on]
      rw [on_congr (E := fun g => ¬ E g) (fun g => ⟨fun h he => h.1 ⟨he, Classical.byContradiction fun hd => h.2 ⟨he, hd⟩⟩, fun h => ⟨fun h' => h h'.1, fun h' => h h'.1⟩⟩)]
      exact h2
theorem Sat.drop {A : Asn} {L : List Asn} {h : Heap} (hs : Sat (A :: L) h) : Sat L h :=
  let ⟨D, _, hL⟩ := hs
  Sat.append (L' := []) D trivial hL

/-- L' can be had out of L: in another order, with some left out -/
inductive Sub : List Asn → List Asn → Prop
  | nil {L} : Sub L []
  | refl {L} : Sub L L
  | cons {A L L1 L'} : Pick L A L1 → Sub L1 L' → Sub L (A :: L')
  | drop {A L L'} : Sub L L' → Sub (A :: L) L'
theorem Sub.sat {L L' : List Asn} (s : Sub L L') : ∀ {h : Heap}, Sat L h → Sat L' h := by
  induction s with
  | nil => exact fun _ => trivial
  | refl => exact fun h => h
  | cons p _ ih => exact fun h => let ⟨D, hA, hL⟩ := p.sat h; ⟨D, hA, ih hL⟩
  | drop _ ih => exact fun h => ih h.drop

def high (B : Nat) (w : World) : Heap := fun g => if B ≤ g then w.heap[g]? else none

theorem on_high {B : Nat} {w : World} {D : Nat → Prop} {g : Nat} {o : Obj} (h : on (high B w) D g = some o) : D g ∧ B ≤ g ∧ w.heap[g]? = some o := by
  simp only [on] at h
  split at h
  · rename_i hd
    simp only [high] at h
    split at h
    · exact ⟨hd, by assumption, h⟩
    · cases h
  · cases h
theorem on_high_mk {B : Nat} {w : World} {D : Nat → Prop} {g : Nat} {o : Obj} (hd : D g) (hB : B ≤ g) (h : w.heap[g]? = some o) : on (high B w) D g = some o := by
  simp [on, high, hd, hB, h]


structure St (w0 w : World) (L : List Asn) : Prop where
  below : Below w0.heap.size w0 w
  sat : Sat L (high w0.heap.size w)

theorem St.start (w : World) : St w w [] := ⟨Below.refl _ _, trivial⟩
theorem St.sub {w0 w : World} {L L' : List Asn} (h : St w0 w L) (s : Sub L L') : St w0 w L' := ⟨h.below, s.sat h.sat⟩
theorem St.pick {w0 w : World} {L L' : List Asn} {A : Asn} (h : St w0 w L) (p : Pick L A L') : St w0 w (A :: L') := ⟨h.below, p.sat h.sat⟩
theorem St.back {w0 w : World} {L L' : List Asn} {A : Asn} (h : St w0 w (A :: L')) (p : Pick L A L') : St w0 w L := ⟨h.below, p.back h.sat⟩
theorem St.drop {w0 w : World} {L : List Asn} {A : Asn} (h : St w0 w (A :: L)) : St w0 w L := ⟨h.below, by
  obtain ⟨D, _, hL⟩ := h.sat
  exact Sat.append (L' := []) D trivial hL⟩
theorem St.nil {w0 w : World} {L : List Asn} (h : St w0 w L) : St w0 w [] := ⟨h.below, trivial⟩
theorem St.tail {w0 w : World} {L L' : List Asn} (h : St w0 w (L' ++ L)) : St w0 w L := by
  induction L' with
  | nil => exact h
  | cons A L' ih => exact ih h.drop
theorem St.drew {w0 w : World} {L : List Asn} (h : St w0 w L) : St w0 { w with drawn := w.drawn + 1 } L := ⟨h.below.drew, h.sat⟩
theorem St.size {w0 w : World} {L : List Asn} (h : St w0 w L) : w0.heap.size ≤ w.heap.size := h.below.size

/-- one more block -/
theorem St.new {w0 w : World} {L : List Asn} {A : Asn} (h : St w0 w L) (o : Obj) (hA : ∀ k : Heap, k w.heap.size = some o → A k) : St w0 (w.alloc o) (A :: L) := by
  refine ⟨h.below.alloc h.size o, fun g => g = w.heap.size, hA _ ?_, ?_⟩
  · have e : (w.alloc o).heap[w.heap.size]? = some o := heap_alloc_new w o
    exact on_high_mk (D := fun g => g = w.heap.size) rfl h.size e
  · have : on (high w0.heap.size (w.alloc o)) (fun g => ¬ g = w.heap.size) = high w0.heap.size w := by
      funext g
      by_cases hg : g = w.heap.size
      · subst hg; simp [on, high]
      · simp only [on, if_pos hg, high]
        split
        · rcases Nat.lt_or_ge g w.heap.size with hl | hl
          · exact Below.heap_alloc w o g hl
          · rw [Array.getElem?_eq_none (by simp; omega), Array.getElem?_eq_none (by omega)]
        · rfl
    rw [this]
    exact h.sat

/-- the first assertion's blocks may have been written, and new blocks been made -/
theorem St.turn {w0 w w' : World} {L : List Asn} {A A' : Asn} (h : St w0 w (A :: L)) (hb : Below w0.heap.size w w')
    (hstep : ∀ D : Nat → Prop, A (on (high w0.heap.size w) D) → (∀ g, g < w.heap.size → ¬ D g → w'.heap[g]? = w.heap[g]?) ∧ A' (on (high w0.heap.size w') (fun g => D g ∨ w.heap.size ≤ g))) :
    St w0 w' (A' :: L) := by
  obtain ⟨D, hA, hL⟩ := h.sat
  obtain ⟨h1, h2⟩ := hstep D hA
  refine ⟨h.below.trans hb, fun g => D g ∨ w.heap.size ≤ g, h2, ?_⟩
  have : on (high w0.heap.size w') (fun g => ¬ (D g ∨ w.heap.size ≤ g)) = on (high w0.heap.size w) (fun g => ¬ D g) := by
    funext g
    by_cases hd : D g
    · simp [on, hd]
    · by_cases hs : w.heap.size ≤ g
      · simp only [on, if_neg (show ¬ ¬ (D g ∨ w.heap.size ≤ g) from fun h => h (.inr hs)), if_pos hd, high]
        split
        · rw [Array.getElem?_eq_none (by omega)]
        · rfl
      · simp only [on, if_pos (show ¬ (D g ∨ w.heap.size ≤ g) from fun h => h.elim hd hs), if_pos hd, high, h1 g (by omega) hd]
  rw [this]
  exact hL

/-- what a call leaves, told of the world that it began in -/
theorem St.call {w0 w w' : World} {L L' : List Asn} (h : St w0 w L) (h' : St w w' L') : St w0 w' (L' ++ L) := by
  refine ⟨h.below.trans (h'.below.mono h.size), Sat.append (fun g => w.heap.size ≤ g) ?_ ?_⟩
  · have : on (high w0.heap.size w') (fun g => w.heap.size ≤ g) = high w.heap.size w' := by
      funext g
      by_cases hg : w.heap.size ≤ g
      · have := h.size
        simp [on, high, hg, show w0.heap.size ≤ g by omega]
      · simp [on, high, hg]
    rw [this]; exact h'.sat
  · have : on (high w0.heap.size w') (fun g => ¬ w.heap.size ≤ g) = high w0.heap.size w := by
      funext g
      by_cases hg : w.heap.size ≤ g
      · simp only [on, high, if_neg (show ¬ ¬ w.heap.size ≤ g from fun h => h hg)]
        split
        · rw [Array.getElem?_eq_none (by omega)]
        · rfl
      · simp only [on, high, if_pos hg]
        split
        · exact h'.below.block g (by omega)
        · rfl
    rw [this]; exact h.sat

/-- an assertion is read -/
theorem St.read {w0 w : World} {L : List Asn} {A : Asn} (h : St w0 w (A :: L)) : ∃ D, A (on (high w0.heap.size w) D) := by
  obtain ⟨D, hA, _⟩ := h.sat
  exact ⟨D, hA⟩
/-- an assertion made of several -/
theorem St.flat {w0 w : World} {L L' : List Asn} (h : St w0 w (Sat L' :: L)) : St w0 w (L' ++ L) := by
  obtain ⟨D, hA, hL⟩ := h.sat
  exact ⟨h.below, Sat.append D hA hL⟩
theorem Sat.split {L' : List Asn} : ∀ {L : List Asn} {h : Heap}, Sat (L' ++ L) h → ∃ E : Nat → Prop, Sat L' (on h E) ∧ Sat L (on h (fun g => ¬ E g)) := by
  induction L' with
  | nil =>
    intro L h hs
    refine ⟨fun _ => False, trivial, ?_⟩
    have : on h (fun g => ¬ False) = h := by funext g; simp [on]
    rw [this]; exact hs
  | cons A L' ih =>
    rintro L h ⟨D, hA, hs⟩
    obtain ⟨E, h1, h2⟩ := ih hs
    refine ⟨fun g => D g ∨ (¬ D g ∧ E g), ⟨D, ?_, ?_⟩, ?_⟩
    · rw [on_on, on_congr (E := D) (fun g => ⟨fun h => h.2, fun h => ⟨.inl h, h⟩⟩)]; exact hA
    · rw [on_on] at h1 ⊢
      rw [on_congr (E := fun g => ¬ D g ∧ E g) (fun g => ⟨fun h => h.1.elim (fun hd => absurd hd h.2) id, fun h => ⟨.inr h, h.1⟩⟩)]
      exact h1
    · rw [on_on] at h2
      rw [on_congr (E := fun g => ¬ D g ∧ ¬ E g) (fun g => ⟨fun h => ⟨fun hd => h (.inl hd), fun he => Classical.byCases (fun hd : D g => h (.inl hd)) (fun hd => h (.inr ⟨hd, he⟩))⟩, fun h h' => h'.elim h.1 (fun h'' => h.2 h''.2)⟩)]
      exact h2
theorem St.fold {w0 w : World} {L L' : List Asn} (h : St w0 w (L' ++ L)) : St w0 w (Sat L' :: L) :=
  let ⟨E, h1, h2⟩ := Sat.split h.sat
  ⟨h.below, E, h1, h2⟩

end SG
