/- Rules for operations, first part: what only computes. -/
import Derived.Test.YtllepoepfkobfaaCtl
import Derived.IntWalk
import Derived.StillTail
namespace SG
open Go Go.RowKit
set_option linter.unusedVariables false

section
variable {P : Program} {Q : Exit → Act → World → Prop} {w0 : World} {N : Nat} {fs : List Kf} {ops : Array Oper} {rest : List Oper} {F : Env} {L : List Asn}

/-- any operation: what its run yields and leaves -/
theorem GL.step {o : Oper} {R : Value → List Asn → Prop} (hg : o.guard = none) (hd : fits N o.dst = true)
    (hv : ∀ a w, Fr N a F → St w0 w L → ∃ v w' L', (execOp a.eval o).run P w = .ok (.value v) w' ∧ R v L' ∧ St w0 w' L')
    (h : ∀ v L', R v L' → GL P Q w0 N false fs ops rest (upd F o.dst v) L') : GL P Q w0 N false fs ops (o :: rest) F L := by
  refine ⟨fun a w hf hs => ?_⟩
  refine wpList_plain hg fun K hK => ?_
  obtain ⟨v, w', L', hrun, hR, hs'⟩ := hv a w hf hs
  unfold Oper.wp
  rw [hrun]
  exact hK _ _ ((h v L' hR).go _ _ (hf.put o.dst v hd) hs')
/-- what an operation yields, in every world -/
structure EvP (P : Program) (N : Nat) (o : Oper) (F : Env) (v : Value) : Prop where
  guard : o.guard = none
  run : ∀ a w, Fr N a F → (execOp a.eval o).run P w = .ok (.value v) w
/-- what it yields in every world of the state -/
structure EvR (P : Program) (w0 : World) (N : Nat) (o : Oper) (F : Env) (L : List Asn) (v : Value) : Prop where
  guard : o.guard = none
  run : ∀ a w, Fr N a F → St w0 w L → (execOp a.eval o).run P w = .ok (.value v) w
theorem EvP.r {o : Oper} {v : Value} (h : EvP P N o F v) : EvR P w0 N o F L v := ⟨h.1, fun a w hf _ => h.2 a w hf⟩
theorem GL.val {q : Bool} {o : Oper} {v : Value} {d : Tmp} (hv : EvR P w0 N o F L v) (ho : o.dst = some d) (hd : Nat.blt d N = true) (h : GL P Q w0 N q fs ops rest ((d, v) :: F) L) : GL P Q w0 N q fs ops (o :: rest) F L := by
  have hd' : fits N o.dst = true := by rw [ho]; exact hd
  have h' : GL P Q w0 N q fs ops rest (upd F o.dst v) L := by rw [ho]; exact h
  exact match q with
  | false => GL.step (R := fun u L' => u = v ∧ L' = L) hv.1 hd' (fun a w hf hs => ⟨v, w, L, hv.2 a w hf hs, ⟨rfl, rfl⟩, hs⟩) (by rintro _ _ ⟨rfl, rfl⟩; exact h')
  | true => ⟨fun a hf => by
    refine wpQuiet_step fun K hK => ?_
    rw [if_pos (by simp [Region.wanted, hv.1])]
    refine ⟨v, fun w hs => ?_, hK _ (h'.go _ (hf.put o.dst v hd'))⟩
    unfold Oper.quietAt
    rw [hv.2 a w hf hs]
    exact ⟨rfl, rfl⟩⟩
/-- that an operation yields a value, whatever else the slots hold -/
def RunIs (P : Program) (N : Nat) (F : Env) (o : Oper) (v : Value) (w : World) : Prop := ∀ a, Fr N a F → (execOp a.eval o).run P w = .ok (.value v) w
section any
variable {eff : Array Bool} {ps : List Pend} {fuel : Nat} {listed : Array Bool}
theorem JOk.live {base S : Array Bool} {o : Oper} {v : Value} {F' : Env} (hv : EvR P w0 N o F' L v) (h : JOk eff ps listed w0 L) : JOk eff (⟨base, S, RunIs P N F' o v⟩ :: ps) listed w0 L :=
  JOk.fact (fun w hs a hf => hv.run a w hf hs) h
theorem GA.early {i : Nat} {o : Oper} {v : Value} {d : Tmp} (S : Array Bool) (R : World → Prop) (hi : ops[i]? = some o) (hsel : Region.noSelect ops = true) (ho : o.dst = some d) (hd : Nat.blt d N = true) (heff : eff.getD i false = false)
    (he : Region.early .any ops listed S i = true) (hr : (Region.ready .any ops listed).contains i = true)
    (hQ : ∀ c a w, Kn P Q fs (.panic c) (a.put (some d) v) w → Kn P Q fs (.panic c) a w)
    (hw : ∀ a, Fr N a F → Region.wanted o (yielded ops a.tmps) = true) (hR : ∀ a w, Fr N a F → R w → (execOp a.eval o).run P w = .ok (.value v) w)
    (h : ∀ a w, Fr N a ((d, v) :: F) → St w0 w L → wpAnyJ P .any ops (Kn P Q fs) (fun l w => JJ eff ps l w ∧ (quietTill eff listed S l = true → R w)) fuel (listed.setIfInBounds i true) a w) : GA P Q w0 N fs ops eff ps (fuel + 1) listed F L := by
  refine ⟨fun a w hF hs => ?_⟩
  have hd' : fits N o.dst = true := by rw [ho]; exact hd
  have hF' : Fr N (a.put o.dst v) ((d, v) :: F) := by have := hF.put o.dst v hd'; rw [ho] at this ⊢; exact this
  have hi' : i ∈ Region.ready .any ops listed := by simpa using hr
  have hE := he
  simp only [Region.early, hi, List.all_eq_true, List.mem_range] at hE
  refine wpAnyJ_early (S := S) (base := listed) (R := R) (e0 := execOp a.eval o) hi hsel heff (JJ.unset heff) (fun w hRw => hR a w hF hRw) (by rw [ho]; exact hQ) fuel listed a w he hi' (fun j hj => .inl hj) (fun j hj hji hSj => ?_) rfl (hw a hF) (h _ w hF' hs)
  cases hoj : ops[j]? with
  | none => exact absurd hoj hj
  | some oj =>
    have := hE j (Array.getElem?_eq_some_iff.1 hoj).1
    simp only [hoj, Bool.or_eq_true, beq_iff_eq, hji, false_or, hSj, Bool.false_eq_true, if_false, Bool.and_eq_true, Bool.not_eq_true'] at this
    exact this.1
theorem GA.take (i : Nat) (S : Array Bool) {o : Oper} {v : Value} {d : Tmp} (hi : ops[i]? = some o) (hv : EvP P N o F v) (ho : o.dst = some d) (hd : Nat.blt d N = true) (hsel : Region.noSelect ops = true) (heff : eff.getD i false = false)
    (he : Region.early .any ops listed S i = true) (hr : (Region.ready .any ops listed).contains i = true) (hQ : ∀ c a w, Kn P Q fs (.panic c) (a.put (some d) v) w → Kn P Q fs (.panic c) a w)
    (h : GA P Q w0 N fs ops eff ps fuel (listed.setIfInBounds i true) ((d, v) :: F) L) : GA P Q w0 N fs ops eff ps (fuel + 1) listed F L :=
  GA.early S (fun _ => True) hi hsel ho hd heff he hr hQ (fun a _ => by simp [Region.wanted, hv.1]) (fun a w hF _ => hv.2 a w hF) (fun a w hF hs => wpAnyJ.mono (fun _ _ hj => ⟨hj, fun _ => trivial⟩) (h.go a w hF hs))
theorem GA.read (i : Nat) (S : Array Bool) {o : Oper} {v : Value} {d : Tmp} (hi : ops[i]? = some o) (hv : EvR P w0 N o F L v) (ho : o.dst = some d) (hd : Nat.blt d N = true) (hsel : Region.noSelect ops = true) (heff : eff.getD i false = false)
    (he : Region.early .any ops listed S i = true) (hr : (Region.ready .any ops listed).contains i = true) (hQ : ∀ c a w, Kn P Q fs (.panic c) (a.put (some d) v) w → Kn P Q fs (.panic c) a w)
    (h : GA P Q w0 N fs ops eff (⟨listed, S, RunIs P N F o v⟩ :: ps) fuel (listed.setIfInBounds i true) ((d, v) :: F) L) : GA P Q w0 N fs ops eff ps (fuel + 1) listed F L :=
  GA.early S (RunIs P N F o v) hi hsel ho hd heff he hr hQ (fun a _ => by simp [Region.wanted, hv.1]) (fun a w hF hR => hR a hF)
    (fun a w hF hs => wpAnyJ.mono (fun l w hj => ⟨fun p hp => hj p (List.mem_cons_of_mem _ hp), fun hq => hj ⟨listed, S, RunIs P N F o v⟩ (List.mem_cons_self ..) hq⟩) (h.go a w hF hs))
theorem GA.take_want (i : Nat) (S : Array Bool) {dd : Tmp} {op : Op} {ty : TypeId} {pos : String} {after : Array Edge} {j : Nat} {want : Bool} {d : Tmp} {v : Value} (hi : ops[i]? = some ⟨some dd, op, ty, pos, after, some (j, want)⟩)
    (hj : (ops[j]?).bind (·.dst) = some d) (hl : look F d = some (.bool want)) (hv : EvP P N ⟨some dd, op, ty, pos, after, none⟩ F v) (hd : Nat.blt dd N = true) (hsel : Region.noSelect ops = true) (heff : eff.getD i false = false)
    (he : Region.early .any ops listed S i = true) (hr : (Region.ready .any ops listed).contains i = true) (hQ : ∀ c a w, Kn P Q fs (.panic c) (a.put (some dd) v) w → Kn P Q fs (.panic c) a w)
    (h : GA P Q w0 N fs ops eff ps fuel (listed.setIfInBounds i true) ((dd, v) :: F) L) : GA P Q w0 N fs ops eff ps (fuel + 1) listed F L :=
  GA.early S (fun _ => True) hi hsel rfl hd heff he hr hQ (fun a hF => by simp [Region.wanted, yielded, hj, hF.val d _ hl]) (fun a w hF _ => hv.2 a w hF) (fun a w hF hs => wpAnyJ.mono (fun _ _ hj => ⟨hj, fun _ => trivial⟩) (h.go a w hF hs))
theorem GA.read_want (i : Nat) (S : Array Bool) {dd : Tmp} {op : Op} {ty : TypeId} {pos : String} {after : Array Edge} {j : Nat} {want : Bool} {d : Tmp} {v : Value} (hi : ops[i]? = some ⟨some dd, op, ty, pos, after, some (j, want)⟩)
    (hj : (ops[j]?).bind (·.dst) = some d) (hl : look F d = some (.bool want)) (hv : EvR P w0 N ⟨some dd, op, ty, pos, after, none⟩ F L v) (hd : Nat.blt dd N = true) (hsel : Region.noSelect ops = true) (heff : eff.getD i false = false)
    (he : Region.early .any ops listed S i = true) (hr : (Region.ready .any ops listed).contains i = true) (hQ : ∀ c a w, Kn P Q fs (.panic c) (a.put (some dd) v) w → Kn P Q fs (.panic c) a w)
    (h : GA P Q w0 N fs ops eff (⟨listed, S, RunIs P N F ⟨some dd, op, ty, pos, after, none⟩ v⟩ :: ps) fuel (listed.setIfInBounds i true) ((dd, v) :: F) L) : GA P Q w0 N fs ops eff ps (fuel + 1) listed F L :=
  GA.early S (RunIs P N F ⟨some dd, op, ty, pos, after, none⟩ v) hi hsel rfl hd heff he hr hQ (fun a hF => by simp [Region.wanted, yielded, hj, hF.val d _ hl]) (fun a w hF hR => hR a hF)
    (fun a w hF hs => wpAnyJ.mono (fun l w hj => ⟨fun p hp => hj p (List.mem_cons_of_mem _ hp), fun hq => hj ⟨listed, S, RunIs P N F ⟨some dd, op, ty, pos, after, none⟩ v⟩ (List.mem_cons_self ..) hq⟩) (h.go a w hF hs))
theorem GA.skip {i : Nat} {o : Oper} {d : Tmp} (S : Array Bool) (hi : ops[i]? = some o) (hsel : Region.noSelect ops = true) (ho : o.dst = some d) (hd : Nat.blt d N = true) (heff : eff.getD i false = false)
    (he : Region.early .any ops listed S i = true) (hr : (Region.ready .any ops listed).contains i = true)
    (hQ : ∀ c a w, Kn P Q fs (.panic c) (a.put (some d) undef) w → Kn P Q fs (.panic c) a w)
    (hw : ∀ a, Fr N a F → Region.wanted o (yielded ops a.tmps) = false)
    (h : GA P Q w0 N fs ops eff ps fuel (listed.setIfInBounds i true) ((d, undef) :: F) L) : GA P Q w0 N fs ops eff ps (fuel + 1) listed F L := by
  refine ⟨fun a w hF hs => ?_⟩
  have hd' : fits N o.dst = true := by rw [ho]; exact hd
  have hF' : Fr N (a.put o.dst undef) ((d, undef) :: F) := by have := hF.put o.dst undef hd'; rw [ho] at this ⊢; exact this
  have hi' : i ∈ Region.ready .any ops listed := by simpa using hr
  have hE := he
  simp only [Region.early, hi, List.all_eq_true, List.mem_range] at hE
  refine wpAnyJ_unwant (S := S) (base := listed) (R := fun _ => True) hi hsel heff (JJ.unset heff) (fun _ => trivial) (by rw [ho]; exact hQ) fuel listed a w he hi' (fun j hj => .inl hj) (fun j hj hji hSj => ?_) (hw a hF) (h.go _ w hF' hs)
  cases hoj : ops[j]? with
  | none => exact absurd hoj hj
  | some oj =>
    have := hE j (Array.getElem?_eq_some_iff.1 hoj).1
    simp only [hoj, Bool.or_eq_true, beq_iff_eq, hji, false_or, hSj, Bool.false_eq_true, if_false, Bool.and_eq_true, Bool.not_eq_true'] at this
    exact this.1
theorem GA.unwant (i : Nat) (S : Array Bool) {dd : Tmp} {op : Op} {ty : TypeId} {pos : String} {after : Array Edge} {j : Nat} {want b : Bool} {d : Tmp} (hi : ops[i]? = some ⟨some dd, op, ty, pos, after, some (j, want)⟩)
    (hj : (ops[j]?).bind (·.dst) = some d) (hl : look F d = some (.bool b)) (hb : (b == want) = false) (hd : Nat.blt dd N = true) (hsel : Region.noSelect ops = true) (heff : eff.getD i false = false)
    (he : Region.early .any ops listed S i = true) (hr : (Region.ready .any ops listed).contains i = true) (hQ : ∀ c a w, Kn P Q fs (.panic c) (a.put (some dd) undef) w → Kn P Q fs (.panic c) a w)
    (h : GA P Q w0 N fs ops eff ps fuel (listed.setIfInBounds i true) ((dd, undef) :: F) L) : GA P Q w0 N fs ops eff ps (fuel + 1) listed F L :=
  GA.skip S hi hsel rfl hd heff he hr hQ (fun a hF => by simp [Region.wanted, yielded, hj, hF.val d _ hl]; simpa using hb) h
theorem GA.split {d : Tmp} {b : Bool} (hl : look F d = some (.bool b)) (ht : b = true → GA P Q w0 N fs ops eff ps fuel listed ((d, .bool true) :: F) L) (hf : b = false → GA P Q w0 N fs ops eff ps fuel listed ((d, .bool false) :: F) L) :
    GA P Q w0 N fs ops eff ps fuel listed F L := by
  refine ⟨fun a w hF hs => ?_⟩
  have key : ∀ c, b = c → Fr N a ((d, .bool c) :: F) := fun c hc => by
    subst hc
    exact hF.keeps (Keeps.cons hl Keeps.refl)
  cases b with
  | true => exact (ht rfl).go a w (key _ rfl) hs
  | false => exact (hf rfl).go a w (key _ rfl) hs
theorem GA.split_dec {d : Tmp} {p : Prop} [Decidable p] (hl : look F d = some (.bool (decide p))) (ht : p → GA P Q w0 N fs ops eff ps fuel listed ((d, .bool true) :: F) L) (hf : ¬ p → GA P Q w0 N fs ops eff ps fuel listed ((d, .bool false) :: F) L) :
    GA P Q w0 N fs ops eff ps fuel listed F L := GA.split hl (fun h => ht (of_decide_eq_true h)) (fun h => hf (of_decide_eq_false h))
theorem GA.split_ndec {d : Tmp} {p : Prop} [Decidable p] (hl : look F d = some (.bool (!decide p))) (ht : ¬ p → GA P Q w0 N fs ops eff ps fuel listed ((d, .bool true) :: F) L) (hf : p → GA P Q w0 N fs ops eff ps fuel listed ((d, .bool false) :: F) L) :
    GA P Q w0 N fs ops eff ps fuel listed F L := GA.split hl (fun h => ht (by simpa using h)) (fun h => hf (by simpa using h))
theorem GA.state {L' : List Asn} (hs : ∀ w, St w0 w L → St w0 w L') (h : GA P Q w0 N fs ops eff ps fuel listed F L') : GA P Q w0 N fs ops eff ps fuel listed F L := ⟨fun a w hf hS => h.go a w hf (hs w hS)⟩
end any
theorem GL.skip {o : Oper} {L' : List Asn} (hg : o.guard = none) (hd : o.dst = none)
    (hv : ∀ a w, Fr N a F → St w0 w L → ∃ w', (execOp a.eval o).run P w = .ok .skip w' ∧ St w0 w' L')
    (h : GL P Q w0 N false fs ops rest F L') : GL P Q w0 N false fs ops (o :: rest) F L := by
  refine ⟨fun a w hf hs => ?_⟩
  refine wpList_plain hg fun K hK => ?_
  obtain ⟨w', hrun, hs'⟩ := hv a w hf hs
  unfold Oper.wp
  rw [hrun]
  refine hK _ _ ?_
  rw [hd]
  exact h.go a w' hf hs'

/-! ## guards -/
theorem yielded_of {a : Act} {j : Nat} {d : Tmp} {b : Bool} (hf : Fr N a F) (hj : (ops[j]?).bind (·.dst) = some d) (hl : look F d = some (.bool b)) : yielded ops a.tmps j = some b := by
  have := hf.val d _ hl
  simp [yielded, hj, this]
theorem GL.want {q : Bool} {dst : Option Tmp} {op : Op} {ty : TypeId} {pos : String} {after : Array Edge} {j : Nat} {want : Bool} {d : Tmp} (hj : (ops[j]?).bind (·.dst) = some d) (hl : look F d = some (.bool want))
    (h : GL P Q w0 N q fs ops (⟨dst, op, ty, pos, after, none⟩ :: rest) F L) : GL P Q w0 N q fs ops (⟨dst, op, ty, pos, after, some (j, want)⟩ :: rest) F L :=
  match q with
  | false => ⟨fun a w hf hs => by
    have h1 := h.go a w hf hs
    unfold wpList at h1 ⊢
    rw [if_pos (by simp [Region.wanted])] at h1
    rw [if_pos (by simp [Region.wanted, yielded_of hf hj hl])]
    exact h1⟩
  | true => ⟨fun a hf => by
    have h1 := h.go a hf
    unfold wpQuiet at h1 ⊢
    rw [if_pos (by simp [Region.wanted])] at h1
    rw [if_pos (by simp [Region.wanted, yielded_of hf hj hl])]
    exact h1⟩
theorem GL.unwant {q : Bool} {dd : Tmp} {op : Op} {ty : TypeId} {pos : String} {after : Array Edge} {j : Nat} {want b : Bool} {d : Tmp} (hj : (ops[j]?).bind (·.dst) = some d) (hl : look F d = some (.bool b)) (hb : (b == want) = false)
    (hd : Nat.blt dd N = true) (h : GL P Q w0 N q fs ops rest ((dd, undef) :: F) L) : GL P Q w0 N q fs ops (⟨some dd, op, ty, pos, after, some (j, want)⟩ :: rest) F L := by
  have key : ∀ {a : Act}, Fr N a F → ¬ (Region.wanted ⟨some dd, op, ty, pos, after, some (j, want)⟩ (yielded ops a.tmps) = true) := by
    intro a hf hc
    simp only [Region.wanted, yielded_of hf hj hl] at hc
    have : b = want := by simpa using hc
    subst this
    simp at hb
  cases q with
  | false =>
    refine ⟨fun a w hf hs => ?_⟩
    unfold wpList
    rw [if_neg (key hf)]
    exact h.go _ _ (hf.put (some dd) undef hd) hs
  | true =>
    refine ⟨fun a hf => ?_⟩
    unfold wpQuiet
    rw [if_neg (key hf)]
    exact h.go _ (hf.put (some dd) undef hd)
/-- the guard's slot is a Bool that is not decided yet: both ways, the slot known on each -/
theorem GL.split {q : Bool} {l : List Oper} {d : Tmp} {b : Bool} (hl : look F d = some (.bool b)) (ht : b = true → GL P Q w0 N q fs ops l ((d, .bool true) :: F) L) (hf : b = false → GL P Q w0 N q fs ops l ((d, .bool false) :: F) L) :
    GL P Q w0 N q fs ops l F L := by
  have key : ∀ {a : Act} c, Fr N a F → b = c → Fr N a ((d, .bool c) :: F) := fun c hF hc => by
    subst hc
    exact hF.keeps (Keeps.cons hl Keeps.refl)
  cases q with
  | false =>
    refine ⟨fun a w hF hs => ?_⟩
    cases b with
    | true => exact (ht rfl).go a w (key _ hF rfl) hs
    | false => exact (hf rfl).go a w (key _ hF rfl) hs
  | true =>
    refine ⟨fun a hF => ?_⟩
    cases b with
    | true => exact (ht rfl).go a (key _ hF rfl)
    | false => exact (hf rfl).go a (key _ hF rfl)
theorem GL.split_dec {q : Bool} {l : List Oper} {d : Tmp} {p : Prop} [Decidable p] (hl : look F d = some (.bool (decide p))) (ht : p → GL P Q w0 N q fs ops l ((d, .bool true) :: F) L) (hf : ¬ p → GL P Q w0 N q fs ops l ((d, .bool false) :: F) L) :
    GL P Q w0 N q fs ops l F L := GL.split hl (fun h => ht (of_decide_eq_true h)) (fun h => hf (of_decide_eq_false h))
theorem GL.split_not {q : Bool} {l : List Oper} {d : Tmp} {b : Bool} (hl : look F d = some (.bool (!b))) (ht : b = false → GL P Q w0 N q fs ops l ((d, .bool true) :: F) L) (hf : b = true → GL P Q w0 N q fs ops l ((d, .bool false) :: F) L) :
    GL P Q w0 N q fs ops l F L := GL.split hl (fun h => ht (by cases b <;> simp_all)) (fun h => hf (by cases b <;> simp_all))
theorem GL.split_ndec {q : Bool} {l : List Oper} {d : Tmp} {p : Prop} [Decidable p] (hl : look F d = some (.bool (!decide p))) (ht : ¬ p → GL P Q w0 N q fs ops l ((d, .bool true) :: F) L) (hf : p → GL P Q w0 N q fs ops l ((d, .bool false) :: F) L) :
    GL P Q w0 N q fs ops l F L := GL.split_not hl (fun h => ht (of_decide_eq_false h)) (fun h => hf (of_decide_eq_true h))

/-- at an operation whose guard is not decided -/
theorem GL.gbool {q : Bool} {dst : Option Tmp} {op : Op} {ty : TypeId} {pos : String} {after : Array Edge} {j : Nat} {want : Bool} {d : Tmp} {b : Bool} (hj : (ops[j]?).bind (·.dst) = some d) (hl : look F d = some (.bool b))
    (ht : b = true → GL P Q w0 N q fs ops (⟨dst, op, ty, pos, after, some (j, want)⟩ :: rest) ((d, .bool true) :: F) L) (hf : b = false → GL P Q w0 N q fs ops (⟨dst, op, ty, pos, after, some (j, want)⟩ :: rest) ((d, .bool false) :: F) L) :
    GL P Q w0 N q fs ops (⟨dst, op, ty, pos, after, some (j, want)⟩ :: rest) F L := GL.split hl ht hf
theorem GL.gdec {q : Bool} {dst : Option Tmp} {op : Op} {ty : TypeId} {pos : String} {after : Array Edge} {j : Nat} {want : Bool} {d : Tmp} {p : Prop} [Decidable p] (hj : (ops[j]?).bind (·.dst) = some d) (hl : look F d = some (.bool (decide p)))
    (ht : p → GL P Q w0 N q fs ops (⟨dst, op, ty, pos, after, some (j, want)⟩ :: rest) ((d, .bool true) :: F) L) (hf : ¬ p → GL P Q w0 N q fs ops (⟨dst, op, ty, pos, after, some (j, want)⟩ :: rest) ((d, .bool false) :: F) L) :
    GL P Q w0 N q fs ops (⟨dst, op, ty, pos, after, some (j, want)⟩ :: rest) F L := GL.split_dec hl ht hf
theorem GL.gnot {q : Bool} {dst : Option Tmp} {op : Op} {ty : TypeId} {pos : String} {after : Array Edge} {j : Nat} {want : Bool} {d : Tmp} {b : Bool} (hj : (ops[j]?).bind (·.dst) = some d) (hl : look F d = some (.bool (!b)))
    (ht : b = false → GL P Q w0 N q fs ops (⟨dst, op, ty, pos, after, some (j, want)⟩ :: rest) ((d, .bool true) :: F) L) (hf : b = true → GL P Q w0 N q fs ops (⟨dst, op, ty, pos, after, some (j, want)⟩ :: rest) ((d, .bool false) :: F) L) :
    GL P Q w0 N q fs ops (⟨dst, op, ty, pos, after, some (j, want)⟩ :: rest) F L := GL.split_not hl ht hf
theorem GL.gndec {q : Bool} {dst : Option Tmp} {op : Op} {ty : TypeId} {pos : String} {after : Array Edge} {j : Nat} {want : Bool} {d : Tmp} {p : Prop} [Decidable p] (hj : (ops[j]?).bind (·.dst) = some d) (hl : look F d = some (.bool (!decide p)))
    (ht : ¬ p → GL P Q w0 N q fs ops (⟨dst, op, ty, pos, after, some (j, want)⟩ :: rest) ((d, .bool true) :: F) L) (hf : p → GL P Q w0 N q fs ops (⟨dst, op, ty, pos, after, some (j, want)⟩ :: rest) ((d, .bool false) :: F) L) :
    GL P Q w0 N q fs ops (⟨dst, op, ty, pos, after, some (j, want)⟩ :: rest) F L := GL.split_ndec hl ht hf

/-! ## a region that draws its order: reads, then a tail in order -/
structure GS (P : Program) (Q : Exit → Act → World → Prop) (w0 : World) (N : Nat) (fs : List Kf) (ops : Array Oper) (tail l : List Oper) (F : Env) (L : List Asn) : Prop where
  go : ∀ a w, Fr N a F → St w0 w L → wpStill P ops w (fun a' => wpList P ops (Kn P Q fs) tail a' w) l a
theorem GC.region_tail {id : Nat} {l : List Oper} (n : Nat) (hm : P.follows .mixedOrders = true) (hB : Region.lexTailB .any l.toArray n = true) (h : GS P Q w0 N fs l.toArray (l.drop n) (l.take n) F L) : GC P Q w0 N fs (.region id l.toArray true) F L :=
  ⟨fun a w hf hs => wp_region_still_tail n hm hB (h.go a _ hf hs.drew)⟩
theorem GS.nil {tail : List Oper} (h : GL P Q w0 N false fs ops tail F L) : GS P Q w0 N fs ops tail [] F L := ⟨fun a w hf hs => wpStill_nil (h.go a w hf hs)⟩
theorem GS.val {tail : List Oper} {o : Oper} {v : Value} {d : Tmp} (hv : EvR P w0 N o F L v) (ho : o.dst = some d) (hd : Nat.blt d N = true) (h : GS P Q w0 N fs ops tail rest ((d, v) :: F) L) : GS P Q w0 N fs ops tail (o :: rest) F L := by
  refine ⟨fun a w hf hs => ?_⟩
  unfold wpStill
  rw [if_pos (by simp [Region.wanted, hv.1])]
  unfold Oper.still
  rw [hv.2 a w hf hs, Oper.stillUpon_value, ho]
  exact h.go _ w (hf.put (some d) v hd) hs
theorem GS.want {tail : List Oper} {dst : Option Tmp} {op : Op} {ty : TypeId} {pos : String} {after : Array Edge} {j : Nat} {want : Bool} {d : Tmp} (hj : (ops[j]?).bind (·.dst) = some d) (hl : look F d = some (.bool want))
    (h : GS P Q w0 N fs ops tail (⟨dst, op, ty, pos, after, none⟩ :: rest) F L) : GS P Q w0 N fs ops tail (⟨dst, op, ty, pos, after, some (j, want)⟩ :: rest) F L := by
  refine ⟨fun a w hf hs => ?_⟩
  have h1 := h.go a w hf hs
  unfold wpStill at h1 ⊢
  rw [if_pos (by simp [Region.wanted])] at h1
  rw [if_pos (by simp [Region.wanted, yielded_of hf hj hl])]
  exact h1
theorem GS.unwant {tail : List Oper} {dd : Tmp} {op : Op} {ty : TypeId} {pos : String} {after : Array Edge} {j : Nat} {want b : Bool} {d : Tmp} (hj : (ops[j]?).bind (·.dst) = some d) (hl : look F d = some (.bool b)) (hb : (b == want) = false)
    (hd : Nat.blt dd N = true) (h : GS P Q w0 N fs ops tail rest ((dd, undef) :: F) L) : GS P Q w0 N fs ops tail (⟨some dd, op, ty, pos, after, some (j, want)⟩ :: rest) F L := by
  refine ⟨fun a w hf hs => ?_⟩
  unfold wpStill
  rw [if_neg (by
    intro hc
    simp only [Region.wanted, yielded_of hf hj hl] at hc
    have : b = want := by simpa using hc
    subst this
    simp at hb)]
  exact h.go _ w (hf.put (some dd) undef hd) hs
theorem GS.split {tail l : List Oper} {d : Tmp} {b : Bool} (hl : look F d = some (.bool b)) (ht : b = true → GS P Q w0 N fs ops tail l ((d, .bool true) :: F) L) (hf : b = false → GS P Q w0 N fs ops tail l ((d, .bool false) :: F) L) :
    GS P Q w0 N fs ops tail l F L := by
  refine ⟨fun a w hF hs => ?_⟩
  have key : ∀ c, b = c → Fr N a ((d, .bool c) :: F) := fun c hc => by
    subst hc
    exact hF.keeps (Keeps.cons hl Keeps.refl)
  cases b with
  | true => exact (ht rfl).go a w (key _ rfl) hs
  | false => exact (hf rfl).go a w (key _ rfl) hs

/-! ## what only computes -/
section pure
variable {dst : Option Tmp} {ty : TypeId} {pos : String} {after : Array Edge} {x y : Operand}

theorem Ev.move {v : Value} (hx : ev F x = some v) : EvP P N ⟨dst, .move x, ty, pos, after, none⟩ F (v) := ⟨rfl, fun a w hf => by simp [execOp, hf.ev hx]⟩
theorem Ev.assign {v : Value} (hx : ev F x = some v) : EvP P N ⟨dst, .assign x, ty, pos, after, none⟩ F (v) := ⟨rfl, fun a w hf => by simp [execOp, hf.ev hx]⟩
theorem Ev.nilCheck {p : Addr} (hx : ev F x = some (.pointer (some p))) : EvP P N ⟨dst, .nilCheck x, ty, pos, after, none⟩ F ((.pointer (some p))) := ⟨rfl, fun a w hf => by simp [execOp, hf.ev hx]⟩
theorem Ev.pick_true {c : Operand} {v : Value} (hc : ev F c = some (.bool true)) (hx : ev F x = some v) : EvP P N ⟨dst, .pick c x y, ty, pos, after, none⟩ F (v) := ⟨rfl, fun a w hf => by simp [execOp, hf.ev hx, hf.ev hc, asBool]⟩
theorem Ev.pick_false {c : Operand} {v : Value} (hc : ev F c = some (.bool false)) (hx : ev F y = some v) : EvP P N ⟨dst, .pick c x y, ty, pos, after, none⟩ F (v) := ⟨rfl, fun a w hf => by simp [execOp, hf.ev hx, hf.ev hc, asBool]⟩
theorem Ev.not {b : Bool} {t : TypeId} (hx : ev F x = some (.bool b)) : EvP P N ⟨dst, .unOp .not t x, ty, pos, after, none⟩ F ((.bool (!b))) := ⟨rfl, fun a w hf => by simp [execOp, hf.ev hx, Op.unary]⟩
section ints
variable {m n : Int} {t t' : TypeId}
theorem Ev.add (hx : ev F x = some (.int .i64 m)) (hy : ev F y = some (.int .i64 n)) (hr : -9223372036854775808 ≤ m + n ∧ m + n ≤ 9223372036854775807) : EvP P N ⟨dst, .binOp .add t x y t', ty, pos, after, none⟩ F ((.int .i64 (m + n))) := ⟨rfl, fun a w hf => by simp [execOp, hf.ev hx, hf.ev hy, eqGuard, binOp, Op.intArith, IntWalk.i64_in _ hr]⟩
theorem Ev.sub (hx : ev F x = some (.int .i64 m)) (hy : ev F y = some (.int .i64 n)) (hr : -9223372036854775808 ≤ m - n ∧ m - n ≤ 9223372036854775807) : EvP P N ⟨dst, .binOp .sub t x y t', ty, pos, after, none⟩ F ((.int .i64 (m - n))) := ⟨rfl, fun a w hf => by simp [execOp, hf.ev hx, hf.ev hy, eqGuard, binOp, Op.intArith, IntWalk.i64_in _ hr]⟩
theorem Ev.mul (hx : ev F x = some (.int .i64 m)) (hy : ev F y = some (.int .i64 n)) (hr : -9223372036854775808 ≤ m * n ∧ m * n ≤ 9223372036854775807) : EvP P N ⟨dst, .binOp .mul t x y t', ty, pos, after, none⟩ F ((.int .i64 (m * n))) := ⟨rfl, fun a w hf => by simp [execOp, hf.ev hx, hf.ev hy, eqGuard, binOp, Op.intArith, IntWalk.i64_in _ hr]⟩
theorem Ev.rem (hx : ev F x = some (.int .i64 m)) (hy : ev F y = some (.int .i64 n)) (h0 : 0 ≤ m) (h1 : 0 < n) : EvP P N ⟨dst, .binOp .rem t x y t', ty, pos, after, none⟩ F ((.int .i64 (m % n))) := ⟨rfl, fun a w hf => by simp [execOp, hf.ev hx, hf.ev hy, eqGuard, binOp, Op.intDiv, show n ≠ 0 by omega, Int.tmod_eq_emod_of_nonneg h0]⟩
theorem Ev.quo (hx : ev F x = some (.int .i64 m)) (hy : ev F y = some (.int .i64 n)) (h0 : 0 ≤ m) (h1 : 0 < n) (hm : m ≤ 9223372036854775807) : EvP P N ⟨dst, .binOp .quo t x y t', ty, pos, after, none⟩ F ((.int .i64 (m / n))) := ⟨rfl, fun a w hf => by
    have e : m.tdiv n = m / n := Int.tdiv_eq_ediv_of_nonneg h0
    have l : m / n ≤ m := Int.ediv_le_self n h0
    have g : 0 ≤ m / n := Int.ediv_nonneg h0 (by omega)
    simp [execOp, hf.ev hx, hf.ev hy, eqGuard, binOp, Op.intDiv, show n ≠ 0 by omega, e, IntWalk.i64_in (m / n) ⟨by omega, by omega⟩]⟩
theorem Ev.lss (hx : ev F x = some (.int .i64 m)) (hy : ev F y = some (.int .i64 n)) : EvP P N ⟨dst, .binOp .lss t x y t', ty, pos, after, none⟩ F ((.bool (decide (m < n)))) := ⟨rfl, fun a w hf => by simp [execOp, hf.ev hx, hf.ev hy, eqGuard, binOp, Op.intCmp]⟩
theorem Ev.leq (hx : ev F x = some (.int .i64 m)) (hy : ev F y = some (.int .i64 n)) : EvP P N ⟨dst, .binOp .leq t x y t', ty, pos, after, none⟩ F ((.bool (decide (m ≤ n)))) := ⟨rfl, fun a w hf => by simp [execOp, hf.ev hx, hf.ev hy, eqGuard, binOp, Op.intCmp]⟩
theorem Ev.gtr (hx : ev F x = some (.int .i64 m)) (hy : ev F y = some (.int .i64 n)) : EvP P N ⟨dst, .binOp .gtr t x y t', ty, pos, after, none⟩ F ((.bool (decide (n < m)))) := ⟨rfl, fun a w hf => by simp [execOp, hf.ev hx, hf.ev hy, eqGuard, binOp, Op.intCmp]⟩
theorem Ev.geq (hx : ev F x = some (.int .i64 m)) (hy : ev F y = some (.int .i64 n)) : EvP P N ⟨dst, .binOp .geq t x y t', ty, pos, after, none⟩ F ((.bool (decide (n ≤ m)))) := ⟨rfl, fun a w hf => by simp [execOp, hf.ev hx, hf.ev hy, eqGuard, binOp, Op.intCmp]⟩
theorem Ev.eql (hx : ev F x = some (.int .i64 m)) (hy : ev F y = some (.int .i64 n)) : EvP P N ⟨dst, .binOp .eql t x y t', ty, pos, after, none⟩ F ((.bool (decide (m = n)))) := ⟨rfl, fun a w hf => by simp [execOp, hf.ev hx, hf.ev hy, eqGuard, binOp, Op.intCmp]; rfl⟩
theorem Ev.neq (hx : ev F x = some (.int .i64 m)) (hy : ev F y = some (.int .i64 n)) : EvP P N ⟨dst, .binOp .neq t x y t', ty, pos, after, none⟩ F ((.bool (!decide (m = n)))) := ⟨rfl, fun a w hf => by simp [execOp, hf.ev hx, hf.ev hy, eqGuard, binOp, Op.intCmp]; rfl⟩
end ints

class IntTy (P : Program) (t : TypeId) (k : IntKind) : Prop where
  und : P.underlying t = some (.int k)
class BoolTy (P : Program) (t : TypeId) : Prop where
  und : P.underlying t = some .bool
class SlTy (P : Program) (t : TypeId) : Prop where
  und : ∃ e, P.underlying t = some (.slice e)
/-- a byte as an int -/
theorem Ev.of_u8 {n : Int} {s t : TypeId} [hs : IntTy P s .u8] [ht : IntTy P t .i64] (hx : ev F x = some (.int .u8 n)) (hr : 0 ≤ n ∧ n ≤ 255) : EvP P N ⟨dst, .convert s t x, ty, pos, after, none⟩ F ((.int .i64 n)) := ⟨rfl, fun a w hf => by simp [execOp, hf.ev hx, convert, run_underlying hs.und, run_underlying ht.und, Conv.intToInt, IntWalk.i64_in n ⟨by omega, by omega⟩]⟩

/-- bools compared -/
theorem run_equalIn_bool {b c : Bool} {t : TypeId} (ht : P.underlying t = some .bool) (d : Nat) (w : World) : (Op.equalIn (d + 1) t (.bool b) (.bool c)).run P w = .ok (b == c) w := by
  rw [Op.equalIn, Sem.run_bind, run_underlying ht]
  rfl
theorem run_equal_bool {b c : Bool} {t : TypeId} (ht : P.underlying t = some .bool) (w : World) : (Op.equal t (.bool b) (.bool c)).run P w = .ok (b == c) w := run_equalIn_bool ht 9999 w
theorem run_eql_bool {b c : Bool} {t : TypeId} (ht : P.underlying t = some .bool) (w : World) : (binOp .eql t (.bool b) (.bool c)).run P w = .ok (.bool (b == c)) w := by
  show (do pure (Value.bool (← Op.equal t (.bool b) (.bool c))) : Sem Value).run P w = _
  rw [Sem.run_bind, run_equal_bool ht]
  rfl
theorem run_neq_bool {b c : Bool} {t : TypeId} (ht : P.underlying t = some .bool) (w : World) : (binOp .neq t (.bool b) (.bool c)).run P w = .ok (.bool (!(b == c))) w := by
  show (do pure (Value.bool (!(← Op.equal t (.bool b) (.bool c)))) : Sem Value).run P w = _
  rw [Sem.run_bind, run_equal_bool ht]
  rfl
theorem Ev.eql_bool {b c : Bool} {t t' : TypeId} [ht : BoolTy P t] (hx : ev F x = some (.bool b)) (hy : ev F y = some (.bool c)) : EvP P N ⟨dst, .binOp .eql t x y t', ty, pos, after, none⟩ F ((.bool (b == c))) := ⟨rfl, fun a w hf => by simp [execOp, hf.ev hx, hf.ev hy, eqGuard, run_eql_bool ht.und]⟩
theorem Ev.neq_bool {b c : Bool} {t t' : TypeId} [ht : BoolTy P t] (hx : ev F x = some (.bool b)) (hy : ev F y = some (.bool c)) : EvP P N ⟨dst, .binOp .neq t x y t', ty, pos, after, none⟩ F ((.bool (!(b == c)))) := ⟨rfl, fun a w hf => by simp [execOp, hf.ev hx, hf.ev hy, eqGuard, run_neq_bool ht.und]⟩

/-- the length of a slice -/
theorem Ev.len {A : Option Addr} {n c : Nat} {t : TypeId} [ht : SlTy P t] (hx : ev F x = some (.slice A n c)) : EvP P N ⟨dst, .call { callee := .builtin .len, args := #[x], argTypes := #[t] }, ty, pos, after, none⟩ F ((.int .i64 n)) := ⟨rfl, fun a w hf => by
  obtain ⟨e, he⟩ := ht.und
  simp [execOp, resolve, invoke, builtin, hf.ev hx, Builtin.len_, run_underlying he, goInt]⟩
theorem Ev.min {m n : Int} {t t' : TypeId} (hx : ev F x = some (.int .i64 m)) (hy : ev F y = some (.int .i64 n)) : EvP P N ⟨dst, .call { callee := .builtin .min, args := #[x, y], argTypes := #[t, t'] }, ty, pos, after, none⟩ F ((.int .i64 (if n < m then n else m))) := ⟨rfl, fun a w hf => by simp [execOp, resolve, invoke, builtin, hf.ev hx, hf.ev hy, Builtin.min_, Builtin.min2]⟩
theorem Ev.max {m n : Int} {t t' : TypeId} (hx : ev F x = some (.int .i64 m)) (hy : ev F y = some (.int .i64 n)) : EvP P N ⟨dst, .call { callee := .builtin .max, args := #[x, y], argTypes := #[t, t'] }, ty, pos, after, none⟩ F ((.int .i64 (if m < n then n else m))) := ⟨rfl, fun a w hf => by simp [execOp, resolve, invoke, builtin, hf.ev hx, hf.ev hy, Builtin.max_, Builtin.max2]⟩

theorem Ev.extract {vs : List Value} {i : Nat} {v : Value} (hx : ev F x = some (.tuple vs.toArray)) (hi : vs[i]? = some v) : EvP P N ⟨dst, .extract x i, ty, pos, after, none⟩ F (v) := ⟨rfl, fun a w hf => by simp [execOp, hf.ev hx, Instr.extract, hi]⟩
end pure
end
end SG
