/- Rules for the control flow: a goal is code, the frames that stand round it, slots and assertions. -/
import Derived.Test.YtllepoepfkobfaaAny
import Derived.ScopeJumps
namespace SG
open Go Go.RowKit
set_option linter.unusedVariables false

inductive Kf
  | seq (c : Code)
  | block (id : Nat)
  | scope
  | loop (I : Act → World → Prop)
  | any (ops : Array Oper) (eff : Array Bool) (ps : List Pend) (fuel : Nat) (listed : Array Bool)

def Kn (P : Program) (Q : Exit → Act → World → Prop) : List Kf → Exit → Act → World → Prop
  | [] => Q
  | .seq y :: fs => Exit.then (y.wp P (Kn P Q fs)) (Kn P Q fs)
  | .block id :: fs => Exit.inBlock id (Kn P Q fs)
  | .scope :: fs => Exit.noGoto (Kn P Q fs)
  | .loop I :: fs => Exit.then I (Kn P Q fs)
  | .any ops eff ps fuel listed :: fs => Exit.then (wpAnyJ P .any ops (Kn P Q fs) (JJ eff ps) fuel listed) (Kn P Q fs)

section
variable (P : Program) (Q : Exit → Act → World → Prop) (w0 : World) (N : Nat)

structure GC (fs : List Kf) (c : Code) (F : Env) (L : List Asn) : Prop where
  go : ∀ a w, Fr N a F → St w0 w L → c.wp P (Kn P Q fs) a w
structure GE (fs : List Kf) (e : Exit) (F : Env) (L : List Asn) : Prop where
  go : ∀ a w, Fr N a F → St w0 w L → Kn P Q fs e a w
/-- q = false: one operation after the other in the world; q = true: a region that draws its order and only reads, walked in the order of the text -/
def GL' (q : Bool) (fs : List Kf) (ops : Array Oper) (l : List Oper) (F : Env) (L : List Asn) : Prop :=
  match q with
  | false => ∀ a w, Fr N a F → St w0 w L → wpList P ops (Kn P Q fs) l a w
  | true => ∀ a, Fr N a F → wpQuiet P ops (fun w => St w0 w L) (fun a' => ∀ w', St w0 w' L → Kn P Q fs .normal a' w') l a
structure GL (q : Bool) (fs : List Kf) (ops : Array Oper) (l : List Oper) (F : Env) (L : List Asn) : Prop where
  go : GL' P Q w0 N q fs ops l F L
/-- whatever order is picked from here on -/
structure GA (fs : List Kf) (ops : Array Oper) (eff : Array Bool) (ps : List Pend) (fuel : Nat) (listed : Array Bool) (F : Env) (L : List Asn) : Prop where
  go : ∀ a w, Fr N a F → St w0 w L → wpAnyJ P .any ops (Kn P Q fs) (JJ eff ps) fuel listed a w
end

section
variable {P : Program} {Q : Exit → Act → World → Prop} {w0 : World} {N : Nat} {fs : List Kf} {F : Env} {L : List Asn}

theorem GC.seq {x y : Code} (h : GC P Q w0 N (.seq y :: fs) x F L) : GC P Q w0 N fs (.seq x y) F L := ⟨fun a w hf hs => wp_seq (h.1 a w hf hs)⟩
theorem GC.skip (h : GE P Q w0 N fs .normal F L) : GC P Q w0 N fs .skip F L := ⟨fun a w hf hs => wp_skip (h.1 a w hf hs)⟩
theorem GC.label {l : Nat} (h : GE P Q w0 N fs .normal F L) : GC P Q w0 N fs (.label l) F L := ⟨fun a w hf hs => wp_label (h.1 a w hf hs)⟩
theorem GC.exit {id : Nat} (h : GE P Q w0 N fs (.exit id) F L) : GC P Q w0 N fs (.exit id) F L := ⟨fun a w hf hs => wp_exit (h.1 a w hf hs)⟩
theorem GC.ret (h : GE P Q w0 N fs .ret F L) : GC P Q w0 N fs .ret F L := ⟨fun a w hf hs => wp_ret (h.1 a w hf hs)⟩
theorem GC.block {id : Nat} {c : Code} (h : GC P Q w0 N (.block id :: fs) c F L) : GC P Q w0 N fs (.block id c) F L := ⟨fun a w hf hs => wp_block (h.1 a w hf hs)⟩
theorem GC.scope {c : Code} (h : GC P Q w0 N (.scope :: fs) c F L) : GC P Q w0 N fs (.scope c) F L := ⟨fun a w hf hs => wp_scope_straight (h.1 a w hf hs)⟩
theorem GC.cond_bool {c : Operand} {x y : Code} {b : Bool} (hc : ev F c = some (.bool b)) (ht : b = true → GC P Q w0 N fs x F L) (hf : b = false → GC P Q w0 N fs y F L) :
    GC P Q w0 N fs (.cond c x y) F L := ⟨fun a w ha hs => wp_cond_split (ha.ev hc) (fun h => (ht h).1 a w ha hs) (fun h => (hf h).1 a w ha hs)⟩
theorem GC.cond_true {c : Operand} {x y : Code} (hc : ev F c = some (.bool true)) (ht : GC P Q w0 N fs x F L) : GC P Q w0 N fs (.cond c x y) F L :=
  GC.cond_bool hc (fun _ => ht) (fun h => by cases h)
theorem GC.cond_false {c : Operand} {x y : Code} (hc : ev F c = some (.bool false)) (ht : GC P Q w0 N fs y F L) : GC P Q w0 N fs (.cond c x y) F L :=
  GC.cond_bool hc (fun h => by cases h) (fun _ => ht)
theorem GC.cond_dec {c : Operand} {x y : Code} {p : Prop} [Decidable p] (hc : ev F c = some (.bool (decide p))) (ht : p → GC P Q w0 N fs x F L) (hf : ¬ p → GC P Q w0 N fs y F L) :
    GC P Q w0 N fs (.cond c x y) F L := GC.cond_bool hc (fun h => ht (of_decide_eq_true h)) (fun h => hf (of_decide_eq_false h))
theorem GC.cond_not {c : Operand} {x y : Code} {b : Bool} (hc : ev F c = some (.bool (!b))) (ht : b = false → GC P Q w0 N fs x F L) (hf : b = true → GC P Q w0 N fs y F L) :
    GC P Q w0 N fs (.cond c x y) F L := GC.cond_bool hc (fun h => ht (by cases b <;> simp_all)) (fun h => hf (by cases b <;> simp_all))
theorem GC.cond_ndec {c : Operand} {x y : Code} {p : Prop} [Decidable p] (hc : ev F c = some (.bool (!decide p))) (ht : ¬ p → GC P Q w0 N fs x F L) (hf : p → GC P Q w0 N fs y F L) :
    GC P Q w0 N fs (.cond c x y) F L := GC.cond_not hc (fun h => ht (of_decide_eq_false h)) (fun h => hf (of_decide_eq_true h))
theorem GC.if_bool {d : Tmp} {x y : Code} {b : Bool} (hc : look F d = some (.bool b)) (ht : b = true → GC P Q w0 N fs x ((d, .bool true) :: F) L) (hf : b = false → GC P Q w0 N fs y ((d, .bool false) :: F) L) :
    GC P Q w0 N fs (.cond (.tmp d) x y) F L :=
  GC.cond_bool (b := b) hc (fun h => ⟨fun a w ha hs => (ht h).go a w (ha.keeps (Keeps.cons (by rw [hc, h]) Keeps.refl)) hs⟩) (fun h => ⟨fun a w ha hs => (hf h).go a w (ha.keeps (Keeps.cons (by rw [hc, h]) Keeps.refl)) hs⟩)
theorem GC.if_dec {d : Tmp} {x y : Code} {p : Prop} [Decidable p] (hc : look F d = some (.bool (decide p))) (ht : p → GC P Q w0 N fs x ((d, .bool true) :: F) L) (hf : ¬ p → GC P Q w0 N fs y ((d, .bool false) :: F) L) :
    GC P Q w0 N fs (.cond (.tmp d) x y) F L := GC.if_bool hc (fun h => ht (of_decide_eq_true h)) (fun h => hf (of_decide_eq_false h))
theorem GC.if_not {d : Tmp} {x y : Code} {b : Bool} (hc : look F d = some (.bool (!b))) (ht : b = false → GC P Q w0 N fs x ((d, .bool true) :: F) L) (hf : b = true → GC P Q w0 N fs y ((d, .bool false) :: F) L) :
    GC P Q w0 N fs (.cond (.tmp d) x y) F L := GC.if_bool hc (fun h => ht (by cases b <;> simp_all)) (fun h => hf (by cases b <;> simp_all))
theorem GC.if_ndec {d : Tmp} {x y : Code} {p : Prop} [Decidable p] (hc : look F d = some (.bool (!decide p))) (ht : ¬ p → GC P Q w0 N fs x ((d, .bool true) :: F) L) (hf : p → GC P Q w0 N fs y ((d, .bool false) :: F) L) :
    GC P Q w0 N fs (.cond (.tmp d) x y) F L := GC.if_not hc (fun h => ht (of_decide_eq_false h)) (fun h => hf (of_decide_eq_true h))
theorem GC.region {id : Nat} {l : List Oper} (h : GL P Q w0 N false fs l.toArray l F L) : GC P Q w0 N fs (.region id l.toArray false) F L := ⟨fun a w hf hs => wp_region_lit (h.1 a w hf hs)⟩
theorem GC.region_quiet {id : Nat} {l : List Oper} (hm : P.follows .mixedOrders = true) (hB : Region.lexB .any l.toArray = true) (h : GL P Q w0 N true fs l.toArray l F L) : GC P Q w0 N fs (.region id l.toArray true) F L := ⟨fun a _ hf hs =>
  wp_region_quiet (C := fun w => St w0 w L) hm hB hs.drew (h.go a hf)⟩
theorem GC.region_any {id : Nat} {ops : Array Oper} (eff : Array Bool) (hm : P.follows .mixedOrders = true) (h : GA P Q w0 N fs ops eff [] ops.size (Array.replicate ops.size false) F L) : GC P Q w0 N fs (.region id ops true) F L := ⟨fun a _ hf hs =>
  wp_region_any hm (h.go a _ hf hs.drew).forget⟩
/-- what was read early reads so still -/
structure JOk (eff : Array Bool) (ps : List Pend) (listed : Array Bool) (w0 : World) (L : List Asn) : Prop where
  go : ∀ w, St w0 w L → JJ eff ps listed w
theorem JOk.nil {eff : Array Bool} {listed : Array Bool} : JOk eff [] listed w0 L := ⟨fun _ _ _ h => by cases h⟩
theorem JOk.dead {eff base S : Array Bool} {R : World → Prop} {ps : List Pend} {listed : Array Bool} (hq : quietTill eff base S listed = false) (h : JOk eff ps listed w0 L) : JOk eff (⟨base, S, R⟩ :: ps) listed w0 L :=
  ⟨fun w hs p hp hq' => by
    rcases List.mem_cons.1 hp with rfl | hp
    · rw [hq] at hq'; cases hq'
    · exact h.go w hs p hp hq'⟩
theorem JOk.fact {eff base S : Array Bool} {R : World → Prop} {ps : List Pend} {listed : Array Bool} (hR : ∀ w, St w0 w L → R w) (h : JOk eff ps listed w0 L) : JOk eff (⟨base, S, R⟩ :: ps) listed w0 L :=
  ⟨fun w hs p hp hq' => by
    rcases List.mem_cons.1 hp with rfl | hp
    · exact hR w hs
    · exact h.go w hs p hp hq'⟩
theorem GA.done {ops : Array Oper} {eff : Array Bool} {ps : List Pend} {fuel : Nat} {listed : Array Bool} (hJ : JOk eff ps listed w0 L) (hr : Region.ready .any ops listed = []) (h : GE P Q w0 N fs .normal F L) : GA P Q w0 N fs ops eff ps fuel listed F L := ⟨fun a w hf hs => by
  cases fuel with
  | zero => exact ⟨hJ.go w hs, hr, h.go a w hf hs⟩
  | succ f => exact ⟨hJ.go w hs, fun _ => h.go a w hf hs, fun i hi => by rw [hr] at hi; cases hi⟩⟩
theorem GE.any {ops : Array Oper} {eff : Array Bool} {ps : List Pend} {fuel : Nat} {listed : Array Bool} (h : GA P Q w0 N fs ops eff ps fuel listed F L) : GE P Q w0 N (.any ops eff ps fuel listed :: fs) .normal F L := ⟨fun a w hf hs => h.go a w hf hs⟩
/-- every operation that may come up next -/
def GAs (P : Program) (Q : Exit → Act → World → Prop) (w0 : World) (N : Nat) (fs : List Kf) (ops : Array Oper) (eff : Array Bool) (ps : List Pend) (fuel : Nat) (listed : Array Bool) (F : Env) (L : List Asn) (rs : List Nat) : Prop :=
  ∀ i ∈ rs, ∃ o, ops[i]? = some o ∧ GL P Q w0 N false (.any ops eff ps fuel (listed.setIfInBounds i true) :: fs) ops [o] F L
theorem GAs.nil {ops : Array Oper} {eff : Array Bool} {ps : List Pend} {fuel : Nat} {listed : Array Bool} : GAs P Q w0 N fs ops eff ps fuel listed F L [] := fun _ h => by cases h
theorem GAs.cons {ops : Array Oper} {eff : Array Bool} {ps : List Pend} {fuel : Nat} {listed : Array Bool} {i : Nat} {o : Oper} {rs : List Nat} (ho : ops[i]? = some o) (h : GL P Q w0 N false (.any ops eff ps fuel (listed.setIfInBounds i true) :: fs) ops [o] F L) (hs : GAs P Q w0 N fs ops eff ps fuel listed F L rs) :
    GAs P Q w0 N fs ops eff ps fuel listed F L (i :: rs) := fun j hj => by
  rcases List.mem_cons.1 hj with rfl | hj
  · exact ⟨o, ho, h⟩
  · exact hs j hj
theorem GA.branch {ops : Array Oper} {eff : Array Bool} {ps : List Pend} {fuel : Nat} {listed : Array Bool} {rs : List Nat} (hJ : JOk eff ps listed w0 L) (hr : Region.ready .any ops listed = rs) (hne : rs ≠ []) (h : GAs P Q w0 N fs ops eff ps fuel listed F L rs) : GA P Q w0 N fs ops eff ps (fuel + 1) listed F L := by
  refine ⟨fun a w hf hs => ⟨hJ.go w hs, fun h0 => absurd (hr ▸ h0) hne, fun i hi => ?_⟩⟩
  rw [hr] at hi
  obtain ⟨o, ho, hG⟩ := h i hi
  have h1 := hG.go a w hf hs
  unfold wpOp
  rw [ho]
  simp only [wpList] at h1
  have eQ : ∀ {K : Act → World → Prop} {Q' : Exit → Act → World → Prop}, o.wp P a w K (Exit.then K Q') → o.wp P a w K Q' := by
    intro K Q' h
    unfold Oper.wp at *
    generalize (execOp a.eval o).run P w = r at *
    cases r with
    | ok n w' => cases n <;> exact h
    | halt x w' => cases x <;> exact h
  show if _ then _ else _
  split
  · rename_i hw
    rw [if_pos hw] at h1
    exact h1.imp eQ id
  · rename_i hw
    rw [if_neg hw] at h1
    exact h1
theorem GL.nil {q : Bool} {ops : Array Oper} (h : GE P Q w0 N fs .normal F L) : GL P Q w0 N q fs ops [] F L :=
  match q with
  | false => ⟨fun a w hf hs => wpList_nil (h.1 a w hf hs)⟩
  | true => ⟨fun a hf => fun w hs => h.1 a w hf hs⟩

theorem GE.seq {y : Code} (h : GC P Q w0 N fs y F L) : GE P Q w0 N (.seq y :: fs) .normal F L := ⟨fun a w hf hs => h.1 a w hf hs⟩
theorem GE.seq_exit {y : Code} {id : Nat} (h : GE P Q w0 N fs (.exit id) F L) : GE P Q w0 N (.seq y :: fs) (.exit id) F L := ⟨fun a w hf hs => h.1 a w hf hs⟩
theorem GE.seq_ret {y : Code} (h : GE P Q w0 N fs .ret F L) : GE P Q w0 N (.seq y :: fs) .ret F L := ⟨fun a w hf hs => h.1 a w hf hs⟩
theorem GE.block {id : Nat} (h : GE P Q w0 N fs .normal F L) : GE P Q w0 N (.block id :: fs) .normal F L := ⟨fun a w hf hs => h.1 a w hf hs⟩
theorem GE.block_exit {id : Nat} (h : GE P Q w0 N fs .normal F L) : GE P Q w0 N (.block id :: fs) (.exit id) F L := ⟨fun a w hf hs => by
  show Exit.inBlock id _ (.exit id) a w
  simp only [Exit.inBlock, if_true]
  exact h.1 a w hf hs⟩
theorem GE.block_past {id id' : Nat} (hne : Nat.beq id' id = false) (h : GE P Q w0 N fs (.exit id') F L) : GE P Q w0 N (.block id :: fs) (.exit id') F L := ⟨fun a w hf hs => by
  show Exit.inBlock id _ (.exit id') a w
  simp only [Exit.inBlock, if_neg (Nat.ne_of_beq_eq_false hne)]
  exact h.1 a w hf hs⟩
theorem GE.block_ret {id : Nat} (h : GE P Q w0 N fs .ret F L) : GE P Q w0 N (.block id :: fs) .ret F L := ⟨fun a w hf hs => h.1 a w hf hs⟩
theorem GE.scope (h : GE P Q w0 N fs .normal F L) : GE P Q w0 N (.scope :: fs) .normal F L := ⟨fun a w hf hs => h.1 a w hf hs⟩
theorem GE.scope_exit {id : Nat} (h : GE P Q w0 N fs (.exit id) F L) : GE P Q w0 N (.scope :: fs) (.exit id) F L := ⟨fun a w hf hs => h.1 a w hf hs⟩
theorem GE.scope_ret (h : GE P Q w0 N fs .ret F L) : GE P Q w0 N (.scope :: fs) .ret F L := ⟨fun a w hf hs => h.1 a w hf hs⟩
theorem GE.loop_exit {I : Act → World → Prop} {id : Nat} (h : GE P Q w0 N fs (.exit id) F L) : GE P Q w0 N (.loop I :: fs) (.exit id) F L := ⟨fun a w hf hs => h.1 a w hf hs⟩
theorem GE.loop_ret {I : Act → World → Prop} (h : GE P Q w0 N fs .ret F L) : GE P Q w0 N (.loop I :: fs) .ret F L := ⟨fun a w hf hs => h.1 a w hf hs⟩

/-- what holds at the head of every round: a state of its own kind, the slots, the assertions -/
def RoundI {α : Type} (w0 : World) (N : Nat) (I : α → Prop) (E : α → Env) (M : α → List Asn) (μ : α → Nat) (n : Nat) : Act → World → Prop :=
  fun a w => ∃ y, I y ∧ μ y < n ∧ Fr N a (E y) ∧ St w0 w (M y)

open Classical in
noncomputable def least (p : Nat → Prop) : Nat := if h : ∃ n, p n ∧ ∀ m, p m → n ≤ m then Classical.choose h else 0
theorem least_spec {p : Nat → Prop} (h : ∃ n, p n) : p (least p) ∧ ∀ m, p m → least p ≤ m := by
  have hex : ∃ n, p n ∧ ∀ m, p m → n ≤ m := by
    obtain ⟨n, hn⟩ := h
    induction n using Nat.strongRecOn with
    | _ n ih =>
      by_cases hlt : ∃ m, m < n ∧ p m
      · obtain ⟨m, hm, hy⟩ := hlt
        exact ih m hm hy
      · exact ⟨n, hn, fun m hm => Nat.le_of_not_lt fun h => hlt ⟨m, h, hm⟩⟩
  unfold least
  rw [dif_pos hex]
  exact Classical.choose_spec hex

theorem GC.loop {α : Type} {c : Code} (I : α → Prop) (E : α → Env) (M : α → List Asn) (μ : α → Nat) (x0 : α) (h0 : I x0) (hk : Keeps F (E x0)) (hs0 : Sub L (M x0))
    (hr : ∀ x, I x → GC P Q w0 N (.loop (RoundI w0 N I E M μ (μ x)) :: fs) c (E x) (M x)) : GC P Q w0 N fs (.loop c) F L := by
  refine ⟨fun a w hf hs => ?_⟩
  refine wp_loop (fun a w => ∃ y, I y ∧ Fr N a (E y) ∧ St w0 w (M y))
    (fun a w => least (fun n => ∃ y, I y ∧ μ y = n ∧ Fr N a (E y) ∧ St w0 w (M y))) ⟨x0, h0, hf.keeps hk, hs.sub hs0⟩ ?_
  rintro a w ⟨y, hI, hF, hS⟩
  obtain ⟨⟨x, hx, hn, hxF, hxS⟩, _⟩ := least_spec (p := fun n => ∃ y, I y ∧ μ y = n ∧ Fr N a (E y) ∧ St w0 w (M y)) ⟨_, y, hI, rfl, hF, hS⟩
  refine Code.wp_mono ?_ ((hr x hx).go a w hxF hxS)
  intro e a' w' hq
  cases e with
  | normal =>
    obtain ⟨y', hy', hlt, hyF, hyS⟩ := hq
    refine ⟨⟨y', hy', hyF, hyS⟩, ?_⟩
    have := (least_spec (p := fun n => ∃ y, I y ∧ μ y = n ∧ Fr N a' (E y) ∧ St w0 w' (M y)) ⟨_, y', hy', rfl, hyF, hyS⟩).2 _ ⟨y', hy', rfl, hyF, hyS⟩
    rw [hn] at hlt
    exact Nat.lt_of_le_of_lt this hlt
  | _ => exact hq

theorem GE.round {α : Type} {I : α → Prop} {E : α → Env} {M : α → List Asn} {μ : α → Nat} {n : Nat} (y : α) (hI : I y) (hμ : μ y < n) (hk : Keeps F (E y)) (hs : Sub L (M y)) :
    GE P Q w0 N (.loop (RoundI w0 N I E M μ n) :: fs) .normal F L := ⟨fun _ _ hf hS => ⟨y, hI, hμ, hf.keeps hk, hS.sub hs⟩⟩

/-- the same, the slots that the body does not write apart -/
theorem GC.loopK {α : Type} {c : Code} (I : α → Prop) (E : α → Env) (K : Env) (M : α → List Asn) (μ : α → Nat) (x0 : α) (hk : Keeps F (E x0 ++ K)) (hs0 : Sub L (M x0)) (h0 : I x0)
    (hr : ∀ x, I x → GC P Q w0 N (.loop (RoundI w0 N I (fun x => E x ++ K) M μ (μ x)) :: fs) c (E x ++ K) (M x)) : GC P Q w0 N fs (.loop c) F L := GC.loop I (fun x => E x ++ K) M μ x0 h0 hk hs0 hr
/-- where ways meet again -/
def MidI {β : Type} (w0 : World) (N : Nat) (I : β → Prop) (E : β → Env) (M : β → List Asn) : Act → World → Prop := fun a w => ∃ y, I y ∧ Fr N a (E y) ∧ St w0 w (M y)
theorem GC.seq_mid {β : Type} {x y : Code} (I : β → Prop) (E : β → Env) (K : Env) (M : β → List Asn) (hK : Keeps F K) (hx : GC P Q w0 N (.loop (MidI w0 N I (fun b => E b ++ K) M) :: fs) x F L) (hy : ∀ b, I b → GC P Q w0 N fs y (E b ++ K) (M b)) :
    GC P Q w0 N fs (.seq x y) F L := by
  refine ⟨fun a w hf hs => wp_seq ?_⟩
  refine Code.wp_mono ?_ (hx.go a w hf hs)
  intro e a' w' hq
  cases e with
  | normal =>
    obtain ⟨b, hI, hF, hS⟩ := hq
    exact (hy b hI).go a' w' hF hS
  | _ => exact hq
theorem GE.mid {β : Type} {I : β → Prop} {E : β → Env} {M : β → List Asn} (b : β) (hI : I b) (hk : Keeps F (E b)) (hs : Sub L (M b)) : GE P Q w0 N (.loop (MidI w0 N I E M) :: fs) .normal F L := ⟨fun _ _ hf hS => ⟨b, hI, hf.keeps hk, hS.sub hs⟩⟩

/-! ## consequence -/
theorem GC.conseq {c : Code} {F' : Env} {L' : List Asn} (hk : Keeps F F') (hs : Sub L L') (h : GC P Q w0 N fs c F' L') : GC P Q w0 N fs c F L := ⟨fun a w hf hS => h.1 a w (hf.keeps hk) (hS.sub hs)⟩
theorem GE.conseq {e : Exit} {F' : Env} {L' : List Asn} (hk : Keeps F F') (hs : Sub L L') (h : GE P Q w0 N fs e F' L') : GE P Q w0 N fs e F L := ⟨fun a w hf hS => h.1 a w (hf.keeps hk) (hS.sub hs)⟩
theorem GL.conseq {ops : Array Oper} {l : List Oper} {L' : List Asn} (hs : Sub L L') (h : GL P Q w0 N false fs ops l F L') : GL P Q w0 N false fs ops l F L := ⟨fun a w hf hS => h.1 a w hf (hS.sub hs)⟩
/-- a state rule: what every world of L also is -/
theorem GL.state {ops : Array Oper} {l : List Oper} {L' : List Asn} (hs : ∀ w, St w0 w L → St w0 w L') (h : GL P Q w0 N false fs ops l F L') : GL P Q w0 N false fs ops l F L := ⟨fun a w hf hS => h.1 a w hf (hs w hS)⟩
theorem GC.state {c : Code} {L' : List Asn} (hs : ∀ w, St w0 w L → St w0 w L') (h : GC P Q w0 N fs c F L') : GC P Q w0 N fs c F L := ⟨fun a w hf hS => h.1 a w hf (hs w hS)⟩
theorem GE.state {e : Exit} {L' : List Asn} (hs : ∀ w, St w0 w L → St w0 w L') (h : GE P Q w0 N fs e F L') : GE P Q w0 N fs e F L := ⟨fun a w hf hS => h.1 a w hf (hs w hS)⟩
theorem GL.fact {ops : Array Oper} {l : List Oper} {p : Prop} (hp : ∀ w, St w0 w L → p) (h : p → GL P Q w0 N false fs ops l F L) : GL P Q w0 N false fs ops l F L := ⟨fun a w hf hS => (h (hp w hS)).go a w hf hS⟩
theorem GC.fact {c : Code} {p : Prop} (hp : ∀ w, St w0 w L → p) (h : p → GC P Q w0 N fs c F L) : GC P Q w0 N fs c F L := ⟨fun a w hf hS => (h (hp w hS)).go a w hf hS⟩
theorem GL.front {ops : Array Oper} {l : List Oper} {A : Asn} {L' : List Asn} (p : Pick L A L') (h : GL P Q w0 N false fs ops l F (A :: L')) : GL P Q w0 N false fs ops l F L := ⟨fun a w hf hS => h.1 a w hf (hS.pick p)⟩
theorem GC.front {c : Code} {A : Asn} {L' : List Asn} (p : Pick L A L') (h : GC P Q w0 N fs c F (A :: L')) : GC P Q w0 N fs c F L := ⟨fun a w hf hS => h.1 a w hf (hS.pick p)⟩

/-! ## contracts -/
def RR (w0 : World) (R : Value → List Asn → Prop) : Ending → World → Prop := fun e w' => ∃ v L', R v L' ∧ e = .returned v ∧ St w0 w' L'
structure Tr (P : Program) (f : FuncId) (args : Array Value) (w0 : World) (L : List Asn) (R : Value → List Asn → Prop) : Prop where
  go : ∀ w, St w0 w L → Calls P f args w (RR w0 R)
theorem Tr.mono {f : FuncId} {args : Array Value} {R R' : Value → List Asn → Prop} (h : Tr P f args w0 L R) (hr : ∀ v L', R v L' → R' v L') : Tr P f args w0 L R' :=
  ⟨fun w hs => (h.go w hs).mono fun _ _ ⟨v, L', h1, h2, h3⟩ => ⟨v, L', hr v L' h1, h2, h3⟩⟩
theorem Tr.sub {f : FuncId} {args : Array Value} {L' : List Asn} {R : Value → List Asn → Prop} (hs : Sub L L') (h : Tr P f args w0 L' R) : Tr P f args w0 L R :=
  ⟨fun w hS => h.go w (hS.sub hs)⟩
theorem Tr.fact {f : FuncId} {args : Array Value} {R : Value → List Asn → Prop} {p : Prop} (hp : ∀ w, St w0 w L → p) (h : p → Tr P f args w0 L R) : Tr P f args w0 L R :=
  ⟨fun w hS => (h (hp w hS)).go w hS⟩

def argEnv : Nat → List Value → Env
  | _, [] => []
  | k, v :: l => (k, v) :: argEnv (k + 1) l
theorem look_argEnv : ∀ (l : List Value) (k t : Nat) (v : Value), look (argEnv k l) t = some v → k ≤ t ∧ l[t - k]? = some v := by
  intro l
  induction l with
  | nil => intro k t v h; simp [argEnv, look] at h
  | cons x l ih =>
    intro k t v h
    simp only [argEnv, look] at h
    cases hb : Nat.beq k t with
    | true =>
      have : k = t := Nat.eq_of_beq_eq_true hb
      subst this
      rw [hb] at h
      exact ⟨Nat.le_refl _, by simpa using h⟩
    | false =>
      have hne := Nat.ne_of_beq_eq_false hb
      rw [hb] at h
      obtain ⟨h1, h2⟩ := ih (k + 1) t v h
      refine ⟨by omega, ?_⟩
      have : t - k = (t - (k + 1)) + 1 := by omega
      rw [this, List.getElem?_cons_succ]
      exact h2
theorem Tr.enter {f : FuncId} {fn : Func} {c : Code} {args : List Value} {R : Value → List Asn → Prop} (hf : P.funcs[f]? = some fn) (hn : fn.ntmps = N) (hb : fn.body = some c) (hle' : Nat.ble args.length N = true)
    (h : GC P (bodyPost P fn (RR w0 R)) w0 N [] c (argEnv 0 args) L) : Tr P f args.toArray w0 L R := by
  have hle : args.length ≤ N := Nat.le_of_ble_eq_true hle'
  refine ⟨fun w hs => ?_⟩
  refine calls_of_wp hf hb (h.go _ _ ⟨?_, rfl, fun t v hl => ?_⟩ hs)
  · simp [hn]; omega
  · obtain ⟨_, h2⟩ := look_argEnv args 0 t v hl
    have hlt : t < args.length := by
      have := (List.getElem?_eq_some_iff.1 h2).1
      simpa using this
    rw [Array.getElem?_append_left (by simpa using hlt)]
    simpa using h2

theorem GE.ret_tmp {fn : Func} {R : Value → List Asn → Prop} {t : Tmp} {v : Value} {L' : List Asn} {e : Exit} (he : e = .ret ∨ e = .normal) (hr : fn.results = #[.tmp t]) (hl : look F t = some v) (hs : Sub L L') (hR : R v L') :
    GE P (bodyPost P fn (RR w0 R)) w0 N [] e F L := by
  refine ⟨fun a w hf hS => ?_⟩
  have : a.defers = [] ∧ ∃ v, (results fn a.tmps).run P w = .ok v w ∧ RR w0 R (.returned v) w := by
    refine ⟨hf.defers, v, ?_, v, L', hR, rfl, hS.sub hs⟩
    rw [results_tmp hr]
    have := hf.val t v hl
    simp [Array.getD_eq_getD_getElem?, this]
  rcases he with rfl | rfl <;> exact this
theorem GE.ret_tmp2 {fn : Func} {R : Value → List Asn → Prop} {t u : Tmp} {v v' : Value} {L' : List Asn} {e : Exit} (he : e = .ret ∨ e = .normal) (hr : fn.results = #[.tmp t, .tmp u]) (hl : look F t = some v) (hl' : look F u = some v') (hs : Sub L L') (hR : R (.tuple #[v, v']) L') :
    GE P (bodyPost P fn (RR w0 R)) w0 N [] e F L := by
  refine ⟨fun a w hf hS => ?_⟩
  have : a.defers = [] ∧ ∃ v, (results fn a.tmps).run P w = .ok v w ∧ RR w0 R (.returned v) w := by
    refine ⟨hf.defers, .tuple #[v, v'], ?_, _, L', hR, rfl, hS.sub hs⟩
    rw [results_tmp2 hr]
    have h1 := hf.val t v hl
    have h2 := hf.val u v' hl'
    simp [Array.getD_eq_getD_getElem?, h1, h2]
  rcases he with rfl | rfl <;> exact this
/-- any other form of results: by its run equation -/
theorem GE.ret_run {fn : Func} {R : Value → List Asn → Prop} {v : Value} {L' : List Asn} {e : Exit} (he : e = .ret ∨ e = .normal)
    (hr : ∀ a w, Fr N a F → St w0 w L → (results fn a.tmps).run P w = .ok v w) (hs : Sub L L') (hR : R v L') :
    GE P (bodyPost P fn (RR w0 R)) w0 N [] e F L := by
  refine ⟨fun a w hf hS => ?_⟩
  have : a.defers = [] ∧ ∃ v, (results fn a.tmps).run P w = .ok v w ∧ RR w0 R (.returned v) w := ⟨hf.defers, v, hr a w hf hS, v, L', hR, rfl, hS.sub hs⟩
  rcases he with rfl | rfl <;> exact this
end
end SG
