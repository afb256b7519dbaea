/- Rules for operations, second part: memory. -/
import Derived.Test.YtllepoepfkobfaaMem
namespace SG
open Go Go.RowKit
set_option linter.unusedVariables false

def elA (A : Option Addr) (k size : Nat) : Addr := (A.getD ⟨0, 0, none⟩).add (k * size)

/-! ## states -/
theorem St.empty {w0 w : World} {L : List Asn} {α : Type} (E : El α) (A : Option Addr) (h : St w0 w L) : St w0 w (row E A 0 [] :: L) := by
  refine ⟨h.below, fun _ => False, .inl ⟨rfl, rfl⟩, ?_⟩
  have : on (high w0.heap.size w) (fun g => ¬ False) = high w0.heap.size w := by funext g; simp [on]
  rw [this]; exact h.sat
theorem St.conv {w0 w : World} {L : List Asn} {A A' : Asn} (h : St w0 w (A :: L)) (hc : ∀ k, A k → A' k) : St w0 w (A' :: L) :=
  let ⟨D, hA, hL⟩ := h.sat
  ⟨h.below, D, hc _ hA, hL⟩
theorem row.take {α : Type} {E : El α} {A : Option Addr} {c : Nat} {xs : List α} {k : Heap} (h : row E A c xs k) (n : Nat) : row E A c (xs.take n) k := by
  rcases h with ⟨rfl, rfl⟩ | ⟨g, cur, rfl, hg, hl, hm, hs, hx⟩
  · exact .inl ⟨rfl, by simp⟩
  · refine .inr ⟨g, cur, rfl, hg, by simp; omega, hm, hs, ?_⟩
    have e : E.flat (xs.take n) = (E.flat xs).take ((xs.take n).length * E.size) := by
      have : E.flat xs = E.flat (xs.take n) ++ E.flat (xs.drop n) := by rw [← E.flat_append, List.take_append_drop]
      rw [this, ← E.flat_length]
      exact (List.take_left).symm
    rw [e, ← hx, List.take_take]
    congr 1
    have : (xs.take n).length ≤ xs.length := by simp; omega
    exact (Nat.min_eq_left (Nat.mul_le_mul_right _ this)).symm

/-- the blocks of a row's assertion, in the world -/
theorem St.row_cases {w0 w : World} {L : List Asn} {α : Type} {E : El α} {A : Option Addr} {c : Nat} {xs : List α} (h : St w0 w (row E A c xs :: L)) :
    (c = 0 ∧ xs = []) ∨ ∃ g cur, A = some ⟨g, 0, none⟩ ∧ w0.heap.size ≤ g ∧ w.heap[g]? = some (.cells cur E.ty (0, 0)) ∧ xs.length ≤ c ∧ c ≤ maxLen ∧ c * E.size ≤ cur.size ∧ cur.toList.take (xs.length * E.size) = E.flat xs := by
  obtain ⟨D, hD⟩ := h.read
  rcases hD with h0 | ⟨g, cur, rfl, hg, hl, hm, hs, hx⟩
  · exact .inl h0
  · exact .inr ⟨g, cur, rfl, (on_high hg).2.1, (on_high hg).2.2, hl, hm, hs, hx⟩

theorem heap_lt {w : World} {g : Nat} {o : Obj} (h : w.heap[g]? = some o) : g < w.heap.size := (Array.getElem?_eq_some_iff.1 h).1

/-- a store into the block of the first assertion -/
theorem St.setRow_blk {w0 w : World} {L : List Asn} {g : Nat} {t : TypeId} {cs cs' : List Value} (h : St w0 w (blk g t cs :: L)) : St w0 (w.setRow g cs'.toArray) (blk g t cs' :: L) := by
  obtain ⟨D, hD⟩ := h.read
  have hD' := on_high hD
  refine h.turn ⟨rfl, rfl, rfl, by simp [World.setRow], fun k hk => ?_⟩ fun D hD => ?_
  · exact setRow_other w g k _ (by have := hD'.2.1; omega)
  · obtain ⟨h1, h2, h3⟩ := on_high hD
    refine ⟨fun k hk hn => setRow_other w g k _ (fun e => hn (e ▸ h1)), ?_⟩
    exact on_high_mk (.inl h1) h2 (setRow_heap w g cs.toArray cs'.toArray t (0, 0) h3)
theorem St.setRow_row {w0 w : World} {L : List Asn} {α : Type} {E : El α} {g c : Nat} {xs xs' : List α} {cur cur' : Array Value} (h : St w0 w (row E (some ⟨g, 0, none⟩) c xs :: L)) (hpos : xs ≠ [] ∨ 0 < c)
    (hcur : w.heap[g]? = some (.cells cur E.ty (0, 0))) (hl : xs'.length ≤ c) (hs : cur'.size = cur.size) (hx : cur'.toList.take (xs'.length * E.size) = E.flat xs') : St w0 (w.setRow g cur') (row E (some ⟨g, 0, none⟩) c xs' :: L) := by
  have hg0 : w0.heap.size ≤ g := by
    rcases h.row_cases with ⟨h1, h2⟩ | ⟨g', cur'', e, hb, _⟩
    · rcases hpos with hp | hp
      · exact absurd h2 hp
      · omega
    · injection e with e; injection e with e; omega
  refine h.turn ⟨rfl, rfl, rfl, by simp [World.setRow], fun k hk => ?_⟩ fun D hD => ?_
  · exact setRow_other w g k _ (by omega)
  · rcases hD with ⟨h1, h2⟩ | ⟨g', cur'', e, hg, hl', hm, hs', hx'⟩
    · rcases hpos with hp | hp
      · exact absurd h2 hp
      · omega
    · injection e with e
      injection e with e
      subst e
      obtain ⟨h1, h2, h3⟩ := on_high hg
      rw [hcur] at h3
      injection h3 with h3
      injection h3 with h3
      subst h3
      refine ⟨fun k hk hn => setRow_other w g k _ (fun e => hn (e ▸ h1)), .inr ⟨g, cur', rfl, ?_, hl, hm, by omega, hx⟩⟩
      exact on_high_mk (.inl h1) h2 (setRow_heap w g cur cur' E.ty (0, 0) hcur)

section
variable {P : Program} {Q : Exit → Act → World → Prop} {w0 : World} {N : Nat} {fs : List Kf} {ops : Array Oper} {rest : List Oper} {F : Env} {L L1 L' : List Asn}
variable {dst : Option Tmp} {ty : TypeId} {pos : String} {after : Array Edge} {x y : Operand}

theorem GL.row0 {l : List Oper} {α : Type} (E : El α) (A : Option Addr) (h : GL P Q w0 N false fs ops l F (row E A 0 [] :: L)) : GL P Q w0 N false fs ops l F L := GL.state (fun _ hs => hs.empty E A) h
theorem GC.row0 {c : Code} {α : Type} (E : El α) (A : Option Addr) (h : GC P Q w0 N fs c F (row E A 0 [] :: L)) : GC P Q w0 N fs c F L := GC.state (fun _ hs => hs.empty E A) h
theorem GL.row_take {l : List Oper} {α : Type} {E : El α} {A : Option Addr} {c : Nat} {xs : List α} (n : Nat) (p : Pick L (row E A c xs) L1) (h : GL P Q w0 N false fs ops l F (row E A c (xs.take n) :: L1)) : GL P Q w0 N false fs ops l F L :=
  GL.state (fun _ hs => (hs.pick p).conv fun _ hk => row.take hk n) h

/-! ## new blocks -/
theorem St.new_blk {w : World} (h : St w0 w L) (t : TypeId) (cs : List Value) : St w0 (w.alloc (.cells cs.toArray t)) (blk w.heap.size t cs :: L) := h.new _ fun _ hk => hk
theorem GL.alloc {dd : Tmp} {t : TypeId} {agg : Bool} {size : Nat} {zc : List Value} [ht : TyOk P t agg size zc] (hd : Nat.blt dd N = true)
    (h : ∀ g, GL P Q w0 N false fs ops rest ((dd, (.pointer (some ⟨g, 0, none⟩))) :: F) (blk g t zc :: L)) : GL P Q w0 N false fs ops (⟨some dd, .alloc t, ty, pos, after, none⟩ :: rest) F L := by
  obtain ⟨z, hz, hrun⟩ := ht.run_zero
  refine GL.step (R := fun v L' => ∃ g, v = .pointer (some ⟨g, 0, none⟩) ∧ L' = blk g t zc :: L) rfl hd (fun a w hf hs => ?_) (by rintro _ _ ⟨g, rfl, rfl⟩; exact h g)
  refine ⟨_, _, _, ?_, ⟨w.heap.size, rfl, rfl⟩, hs.new_blk t zc⟩
  have hz' : z.cells = zc.toArray := by rw [← hz]
  simp [execOp, Instr.alloc, hrun, newVar, newRow, newObj, hz']
  rfl
theorem GL.box {dd : Tmp} {t : TypeId} {v : Value} {cs : List Value} (hx : ev F x = some v) (hv : v.cells.toList = cs) (hd : Nat.blt dd N = true)
    (h : ∀ g, GL P Q w0 N false fs ops rest ((dd, (.pointer (some ⟨g, 0, none⟩))) :: F) (blk g t cs :: L)) : GL P Q w0 N false fs ops (⟨some dd, .box t x, ty, pos, after, none⟩ :: rest) F L := by
  refine GL.step (R := fun v L' => ∃ g, v = .pointer (some ⟨g, 0, none⟩) ∧ L' = blk g t cs :: L) rfl hd (fun a w hf hs => ?_) (by rintro _ _ ⟨g, rfl, rfl⟩; exact h g)
  refine ⟨_, _, _, ?_, ⟨w.heap.size, rfl, rfl⟩, hs.new_blk t cs⟩
  have hv' : v.cells = cs.toArray := by rw [← hv]
  simp [execOp, Instr.box, newVar, newRow, newObj, hv', hf.ev hx]
  rfl

/-! ## addresses -/
class FldOk (P : Program) (s : TypeId) (i : Nat) (off : outParam Nat) : Prop where
  run : ∀ a w, (Instr.fieldAt s (.pointer (some a)) i).run P w = .ok (.pointer (some (a.add off))) w
theorem Ev.fieldAddr {s : TypeId} {i off : Nat} {p : Addr} [hq : FldOk P s i off] (hx : ev F x = some (.pointer (some p))) : EvP P N ⟨dst, .fieldAddr s x i, ty, pos, after, none⟩ F ((.pointer (some (p.add off)))) := ⟨rfl, fun a w hf => by simp [execOp, hf.ev hx, hq.run]⟩
theorem Ev.index {α : Type} {E : El α} {st : TypeId} {bytes : Nat} {z : α} {A : Option Addr} {n c k : Nat} {i : Int} {xs : List α} [hE : SlOk P st E bytes z] (hx : ev F x = some (.slice A n c)) (hy : ev F y = some (.int .i64 i))
    (hr : Rd w0 L' E A c xs) (hi : Imp w0 L L') (hik : i = (k : Int)) (hk : k < n) (hn : n ≤ xs.length) : EvR P w0 N ⟨dst, .indexAddr st x y, ty, pos, after, none⟩ F L ((.pointer (some (elA A k E.size)))) := ⟨rfl, fun a w hf hs => by
    obtain ⟨_, _, h3⟩ := hr.go w (hi.go w hs)
    obtain ⟨ad, rfl, _⟩ := h3 k (xs[k]'(by omega)) (List.getElem?_eq_getElem _)
    subst hik
    simp [execOp, hf.ev hx, hf.ev hy, Instr.indexAt, asIntOf, run_underlying hE.und, hk, hE.el.run_sizeOf, elA]⟩
/-! ## loads -/
theorem Ev.load_el {α : Type} {E : El α} {t : TypeId} {agg : Bool} {size : Nat} {zc : List Value} {A : Option Addr} {c k : Nat} {xs : List α} {x0 : α} (hx : ev F x = some (.pointer (some (elA A k E.size))))
    (hr : Rd w0 L' E A c xs) (hi : Imp w0 L L') (ht : t = E.ty) [hT : TyOk P t agg size zc] (ha : agg = E.agg) (hsz : size = E.size) (hk : xs[k]? = some x0) : EvR P w0 N ⟨dst, .load t x, ty, pos, after, none⟩ F L ((E.val x0)) := ⟨rfl, fun a w hf hs => by
    obtain ⟨_, _, h3⟩ := hr.go w (hi.go w hs)
    obtain ⟨ad, rfl, hc⟩ := h3 k x0 hk
    subst ht
    subst ha
    subst hsz
    have := run_loadVar_el (P := P) (w := w) (E := E) hT (a := elA (some ad) k E.size) x0 (fun j u hj => by
      simp only [elA, Option.getD_some, add_add]; exact hc j u hj)
    simp [execOp, hf.ev hx, Instr.loadAt, Instr.sureAddr, this]⟩
/-- one cell of an element -/
theorem Ev.load_el_cell {α : Type} {E : El α} {t : TypeId} {zc : List Value} {A : Option Addr} {c k j : Nat} {u : Value} {xs : List α} {x0 : α} [hT : TyOk P t false 1 zc] (hx : ev F x = some (.pointer (some ((elA A k E.size).add j))))
    (hr : Rd w0 L' E A c xs) (hi : Imp w0 L L') (hk : xs[k]? = some x0) (hu : (E.enc x0)[j]? = some u) : EvR P w0 N ⟨dst, .load t x, ty, pos, after, none⟩ F L (u) := ⟨rfl, fun a w hf hs => by
    obtain ⟨_, _, h3⟩ := hr.go w (hi.go w hs)
    obtain ⟨ad, rfl, hc⟩ := h3 k x0 hk
    have := run_loadVar_one (P := P) (w := w) hT (a := (elA (some ad) k E.size).add j) (v := u) (by simp only [elA, Option.getD_some, add_add]; exact hc j u hu)
    simp [execOp, hf.ev hx, Instr.loadAt, Instr.sureAddr, this]⟩
/-- a struct of one cell inside an element -/
theorem Ev.load_el_cell1 {α : Type} {E : El α} {t : TypeId} {zc : List Value} {A : Option Addr} {c k j : Nat} {u : Value} {xs : List α} {x0 : α} [hT : TyOk P t true 1 zc] (hx : ev F x = some (.pointer (some ((elA A k E.size).add j))))
    (hr : Rd w0 L' E A c xs) (hi : Imp w0 L L') (hk : xs[k]? = some x0) (hu : (E.enc x0)[j]? = some u) : EvR P w0 N ⟨dst, .load t x, ty, pos, after, none⟩ F L ((.agg #[u])) := ⟨rfl, fun a w hf hs => by
    obtain ⟨_, _, h3⟩ := hr.go w (hi.go w hs)
    obtain ⟨ad, rfl, hc⟩ := h3 k x0 hk
    have := run_loadVar_agg (P := P) (w := w) hT (a := (elA (some ad) k E.size).add j) [u] rfl (by
      intro i v hv
      cases i with
      | zero =>
        simp at hv
        subst hv
        simp only [elA, Option.getD_some, add_add, Nat.add_zero]
        exact hc j _ hu
      | succ i => simp at hv)
    simp [execOp, hf.ev hx, Instr.loadAt, Instr.sureAddr, this]⟩
theorem Ev.load_blk {g o : Nat} {t bt : TypeId} {zc cs : List Value} {p : Addr} {v : Value} [hT : TyOk P t false 1 zc] (hx : ev F x = some (.pointer (some p))) (hp : p = ⟨g, o, none⟩)
    (hr : BlkRd w0 L' g bt cs) (hi : Imp w0 L L') (hu : cs[o]? = some v) : EvR P w0 N ⟨dst, .load t x, ty, pos, after, none⟩ F L (v) := ⟨rfl, fun a w hf hs => by
    have hb := hr.go w (hi.go w hs)
    subst hp
    have := run_loadVar_one (P := P) (w := w) hT (a := ⟨g, o, none⟩) (v := v) (by rw [cell_of_heap hb]; simpa using hu)
    simp [execOp, hf.ev hx, Instr.loadAt, Instr.sureAddr, this]⟩
theorem Ev.load_blk_all {g : Nat} {t bt : TypeId} {size : Nat} {zc cs : List Value} {p : Addr} [hT : TyOk P t true size zc] (hx : ev F x = some (.pointer (some p))) (hp : p = ⟨g, 0, none⟩)
    (hr : BlkRd w0 L' g bt cs) (hi : Imp w0 L L') (hl : cs.length = size) : EvR P w0 N ⟨dst, .load t x, ty, pos, after, none⟩ F L ((.agg cs.toArray)) := ⟨rfl, fun a w hf hs => by
    have hb := hr.go w (hi.go w hs)
    subst hp
    have := run_loadVar_agg (P := P) (w := w) hT (a := ⟨g, 0, none⟩) cs hl (fun j u hj => by rw [add_mk, cell_of_heap hb]; simpa using hj)
    simp [execOp, hf.ev hx, Instr.loadAt, Instr.sureAddr, this]⟩
theorem Ev.load_blk1 {g o : Nat} {t bt : TypeId} {zc cs : List Value} {p : Addr} {v : Value} [hT : TyOk P t true 1 zc] (hx : ev F x = some (.pointer (some p))) (hp : p = ⟨g, o, none⟩)
    (hr : BlkRd w0 L' g bt cs) (hi : Imp w0 L L') (hu : cs[o]? = some v) : EvR P w0 N ⟨dst, .load t x, ty, pos, after, none⟩ F L ((.agg #[v])) := ⟨rfl, fun a w hf hs => by
    have hb := hr.go w (hi.go w hs)
    subst hp
    have := run_loadVar_agg (P := P) (w := w) hT (a := ⟨g, o, none⟩) [v] rfl (by
      intro j u hj
      cases j with
      | zero =>
        simp at hj
        subst hj
        rw [add_mk, cell_of_heap hb]; simpa using hu
      | succ j => simp at hj)
    simp [execOp, hf.ev hx, Instr.loadAt, Instr.sureAddr, this]⟩
/-! ## stores -/
theorem GL.store_blk_all {g : Nat} {t bt : TypeId} {agg : Bool} {size : Nat} {zc cs cs' : List Value} {p : Addr} {v : Value} [hT : TyOk P t agg size zc] (hx : ev F x = some (.pointer (some p))) (hp : p = ⟨g, 0, none⟩)
    (hy : ev F y = some v) (pk : Pick L (blk g bt cs) L1) (hl : cs.length = size) (hv : v.cells.toList = cs') (hl' : cs'.length = size) (h1 : (cs'.all (·.oneCell')) = true)
    (h : GL P Q w0 N false fs ops rest F (blk g bt cs' :: L1)) : GL P Q w0 N false fs ops (⟨none, .store t x y, ty, pos, after, none⟩ :: rest) F L := by
  refine GL.skip rfl rfl (fun a w hf hs => ?_) h
  have hs' := hs.pick pk
  have hb := (BlkRd.of_pick (w0 := w0) pk).go w hs
  subst hp
  refine ⟨_, ?_, hs'.setRow_blk (cs' := cs')⟩
  have := run_storeVar_at (P := P) (w := w) hT (g := g) (o := 0) (v := v) (by rw [← Array.length_toList, hv, hl']) (by rw [hv]; intro u hu; exact List.all_eq_true.1 h1 u hu) hb (by simp [hl])
  have e : cs.take 0 ++ cs' ++ cs.drop (0 + size) = cs' := by simp; omega
  simp only [execOp, hf.ev hx, hf.ev hy, Instr.storeAt, Instr.sureAddr]
  simp only [Sem.run_bind, Sem.run_pure, Result.andThen_ok, this, hv]
  rw [e]
theorem GL.store_blk {g o : Nat} {t bt : TypeId} {agg : Bool} {zc cs : List Value} {p : Addr} {v u : Value} [hT : TyOk P t agg 1 zc] (hx : ev F x = some (.pointer (some p))) (hp : p = ⟨g, o, none⟩)
    (hy : ev F y = some v) (pk : Pick L (blk g bt cs) L1) (ho : o < cs.length) (hv : v.cells.toList = [u]) (h1 : u.oneCell' = true)
    (h : GL P Q w0 N false fs ops rest F (blk g bt (cs.set o u) :: L1)) : GL P Q w0 N false fs ops (⟨none, .store t x y, ty, pos, after, none⟩ :: rest) F L := by
  refine GL.skip rfl rfl (fun a w hf hs => ?_) h
  have hs' := hs.pick pk
  have hb := (BlkRd.of_pick (w0 := w0) pk).go w hs
  subst hp
  refine ⟨_, ?_, hs'.setRow_blk (cs' := cs.set o u)⟩
  have := run_storeVar_at (P := P) (w := w) hT (g := g) (o := o) (v := v) (by rw [← Array.length_toList, hv]; rfl) (by rw [hv]; simpa using h1) hb (by simp; omega)
  have e : cs.take o ++ [u] ++ cs.drop (o + 1) = cs.set o u := by
    rw [List.set_eq_take_append_cons_drop]; simp [ho]
  simp only [execOp, hf.ev hx, hf.ev hy, Instr.storeAt, Instr.sureAddr]
  simp only [Sem.run_bind, Sem.run_pure, Result.andThen_ok, this, hv]
  rw [e]
/-- an element of a row of the call's own -/
theorem GL.store_el {α : Type} {E : El α} {t : TypeId} {agg : Bool} {size : Nat} {zc : List Value} {A : Option Addr} {c k : Nat} {xs : List α} {v' : α} {v : Value} (hx : ev F x = some (.pointer (some (elA A k E.size))))
    (hy : ev F y = some v) (pk : Pick L (row E A c xs) L1) (ht : t = E.ty) [hT : TyOk P t agg size zc] (hsz : size = E.size) (hv : E.val v' = v) (hk : k < xs.length)
    (h : GL P Q w0 N false fs ops rest F (row E A c (xs.set k v') :: L1)) : GL P Q w0 N false fs ops (⟨none, .store t x y, ty, pos, after, none⟩ :: rest) F L := by
  refine GL.skip rfl rfl (fun a w hf hs => ?_) h
  have hs' := hs.pick pk
  subst hv
  subst hsz
  rcases hs'.row_cases with ⟨_, h0⟩ | ⟨g, cur, rfl, hg0, hg, hl, hm, hcs, htk⟩
  · subst h0; simp at hk
  · have hkc : (k + 1) * E.size ≤ cur.size := Nat.le_trans (Nat.mul_le_mul_right _ (by omega)) hcs
    have hkc' : k * E.size + E.size ≤ cur.size := by rw [Nat.succ_mul] at hkc; omega
    have := run_storeVar_at (P := P) (w := w) hT (g := g) (o := k * E.size) (v := E.val v') (E.hsize v') (E.hone v') hg hkc'
    refine ⟨_, ?_, hs'.setRow_row (cur' := (cur.toList.take (k * E.size) ++ E.enc v' ++ cur.toList.drop (k * E.size + E.size)).toArray) (.inl (by intro e; subst e; simp at hk)) hg (by simp; omega) ?_ ?_⟩
    · simp only [execOp, hf.ev hx, hf.ev hy, Instr.storeAt, Instr.sureAddr, elA, Option.getD_some, add_mk, Nat.zero_add]
      simp only [Sem.run_bind, Sem.run_pure, Result.andThen_ok, this]
      rfl
    · simp [E.enc_length]; omega
    · have hflat : E.flat (xs.set k v') = (E.flat xs).take (k * E.size) ++ E.enc v' ++ (E.flat xs).drop (k * E.size + E.size) := by
        have e1 : xs = xs.take k ++ xs[k] :: xs.drop (k + 1) := by rw [List.getElem_cons_drop, List.take_append_drop]
        have e2 : xs.set k v' = xs.take k ++ v' :: xs.drop (k + 1) := by rw [List.set_eq_take_append_cons_drop]; simp [hk]
        have l1 : (E.flat (xs.take k)).length = k * E.size := by rw [E.flat_length, List.length_take, Nat.min_eq_left (by omega)]
        have f1 : E.flat xs = E.flat (xs.take k) ++ (E.enc xs[k] ++ E.flat (xs.drop (k + 1))) := by
          conv => lhs; rw [e1]
          rw [E.flat_append]; rfl
        have f2 : E.flat (xs.set k v') = E.flat (xs.take k) ++ (E.enc v' ++ E.flat (xs.drop (k + 1))) := by
          rw [e2, E.flat_append]; rfl
        rw [f2, f1, List.take_left' l1]
        have : (E.flat (xs.take k) ++ (E.enc xs[k] ++ E.flat (xs.drop (k + 1)))).drop (k * E.size + E.size) = E.flat (xs.drop (k + 1)) := by
          rw [← List.append_assoc]
          exact List.drop_left' (by simp [l1, E.enc_length])
        rw [this]; simp
      rw [hflat, ← htk]
      have hlen : (xs.set k v').length * E.size = xs.length * E.size := by simp
      have hks : k * E.size + E.size ≤ xs.length * E.size := by rw [← Nat.succ_mul]; exact Nat.mul_le_mul_right _ hk
      have hxc : xs.length * E.size ≤ cur.size := Nat.le_trans (Nat.mul_le_mul_right _ hl) hcs
      rw [hlen, List.take_take, Nat.min_eq_left (by omega)]
      simp only [List.append_assoc]
      rw [List.take_append, List.take_of_length_le (by simp; omega)]
      congr 1
      rw [List.take_append, List.take_of_length_le (by simp [E.enc_length]; omega)]
      congr 1
      rw [List.drop_take]
      congr 1
      simp [E.enc_length]
      omega
end
end SG
