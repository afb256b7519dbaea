/- Elements, blocks, rows; what is read. -/
import Derived.Test.YtllepoepfkobfaaOp1
import Derived.Maps.AppendAt
import Derived.Laws.CopyRow
namespace SG
open Go Go.RowKit
set_option linter.unusedVariables false

theorem add_block (a : Addr) (n : Nat) : (a.add n).block = a.block := by unfold Addr.add; split <;> rfl
theorem add_add (a : Addr) (i j : Nat) : (a.add i).add j = a.add (i + j) := by
  unfold Addr.add
  by_cases hi : i = 0 <;> by_cases hj : j = 0 <;> simp [hi, hj, Nat.add_assoc]
theorem add_mk (g o n : Nat) : (⟨g, o, none⟩ : Addr).add n = ⟨g, o + n, none⟩ := by
  unfold Addr.add; split <;> simp_all

def isAggD : TypeDesc → Bool
  | .struct _ | .array _ _ => true
  | _ => false
/-- a type: whether a struct, how many cells, the zero's cells -/
class TyOk (P : Program) (t : TypeId) (agg : outParam Bool) (size : outParam Nat) (zc : outParam (List Value)) : Prop where
  und : (P.underlying t).map isAggD = some agg
  info : (P.info? t).map (fun i => (i.size, i.zero.map (·.cells.toList))) = some (size, some zc)

structure El (α : Type) where
  ty : TypeId
  val : α → Value
  size : Nat
  agg : Bool
  hsize : ∀ x, (val x).cells.size = size
  hpos : 0 < size
  hone : ∀ x, ∀ u ∈ (val x).cells.toList, u.oneCell' = true
  hagg : agg = true → ∀ x, val x = .agg (val x).cells
  hsc : agg = false → ∀ x, (val x).cells = #[val x]
def El.enc {α : Type} (E : El α) (x : α) : List Value := (E.val x).cells.toList
def El.flat {α : Type} (E : El α) (xs : List α) : List Value := xs.flatMap E.enc
theorem El.enc_length {α : Type} (E : El α) (x : α) : (E.enc x).length = E.size := by simp [El.enc, E.hsize]
theorem El.flat_length {α : Type} (E : El α) (xs : List α) : (E.flat xs).length = xs.length * E.size := by
  induction xs with
  | nil => simp [El.flat]
  | cons x xs ih =>
    have : E.flat (x :: xs) = E.enc x ++ E.flat xs := rfl
    rw [this, List.length_append, ih, E.enc_length, List.length_cons, Nat.add_mul]; omega
theorem El.flat_append {α : Type} (E : El α) (xs ys : List α) : E.flat (xs ++ ys) = E.flat xs ++ E.flat ys := by simp [El.flat]
theorem El.flat_get {α : Type} (E : El α) : ∀ (xs : List α) (k : Nat) (x : α) (j : Nat) (u : Value), xs[k]? = some x → (E.enc x)[j]? = some u → (E.flat xs)[k * E.size + j]? = some u := by
  intro xs
  induction xs with
  | nil => intro k x j u h; simp at h
  | cons y ys ih =>
    intro k x j u hk hj
    have e : E.flat (y :: ys) = E.enc y ++ E.flat ys := rfl
    rw [e]
    have hjl : j < E.size := by rw [← E.enc_length x]; exact (List.getElem?_eq_some_iff.1 hj).1
    cases k with
    | zero =>
      simp only [List.getElem?_cons_zero, Option.some.injEq] at hk
      subst hk
      rw [Nat.zero_mul, Nat.zero_add, List.getElem?_append_left (by rw [E.enc_length]; exact hjl)]
      exact hj
    | succ k =>
      simp only [List.getElem?_cons_succ] at hk
      rw [List.getElem?_append_right (by rw [E.enc_length, Nat.succ_mul]; omega), E.enc_length]
      have : (k + 1) * E.size + j - E.size = k * E.size + j := by rw [Nat.succ_mul]; omega
      rw [this]
      exact ih k x j u hk hj
theorem El.flat_one {α : Type} (E : El α) (xs : List α) : ∀ u ∈ E.flat xs, u.oneCell' = true := by
  intro u hu
  obtain ⟨x, _, hx⟩ := List.mem_flatMap.1 hu
  exact E.hone x u hx

/-- a slice type over an element -/
class SlOk (P : Program) {α : outParam Type} (st : TypeId) (E : outParam (El α)) (bytes : outParam Nat) (z : outParam α) : Prop where
  und : P.underlying st = some (.slice E.ty)
  bytes : (P.info? E.ty).map (·.bytes) = some bytes
  el : TyOk P E.ty E.agg E.size (E.enc z)

/-! ## assertions -/
/-- a block that is known whole -/
def blk (g : Nat) (t : TypeId) (cs : List Value) : Asn := fun h => h g = some (.cells cs.toArray t (0, 0))
/-- a slice of the call's own: '.slice A xs.length c' -/
def row {α : Type} (E : El α) (A : Option Addr) (c : Nat) (xs : List α) : Asn := fun h =>
  (c = 0 ∧ xs = []) ∨ ∃ g cur, A = some ⟨g, 0, none⟩ ∧ h g = some (.cells cur E.ty (0, 0)) ∧ xs.length ≤ c ∧ c ≤ maxLen ∧ c * E.size ≤ cur.size ∧ cur.toList.take (xs.length * E.size) = E.flat xs

/-! ## what is read -/
def RdW (w : World) {α : Type} (E : El α) (A : Option Addr) (c : Nat) (xs : List α) : Prop :=
  xs.length ≤ c ∧ c ≤ maxLen ∧ ∀ k x, xs[k]? = some x → ∃ ad, A = some ad ∧ ∀ j u, (E.enc x)[j]? = some u → w.cell? (ad.add (k * E.size + j)) = some u
structure Rd (w0 : World) (L : List Asn) {α : Type} (E : El α) (A : Option Addr) (c : Nat) (xs : List α) : Prop where
  go : ∀ w, St w0 w L → RdW w E A c xs
structure BlkRd (w0 : World) (L : List Asn) (g : Nat) (t : TypeId) (cs : List Value) : Prop where
  go : ∀ w, St w0 w L → w.heap[g]? = some (.cells cs.toArray t (0, 0))
structure Imp (w0 : World) (L L' : List Asn) : Prop where
  go : ∀ w, St w0 w L → St w0 w L'
theorem Imp.refl {w0 : World} {L : List Asn} : Imp w0 L L := ⟨fun _ h => h⟩
theorem Imp.cons {w0 : World} {L L' : List Asn} {A : Asn} (h : Imp w0 L L') : Imp w0 (A :: L) L' := ⟨fun w hs => h.go w hs.drop⟩
theorem Imp.nil {w0 : World} {L : List Asn} : Imp w0 L [] := ⟨fun _ hs => hs.nil⟩
theorem Imp.app {w0 : World} {L L' X : List Asn} (h : Imp w0 L L') : Imp w0 (X ++ L) L' := ⟨fun w hs => h.go w hs.tail⟩
theorem Imp.trans {w0 : World} {L L' L'' : List Asn} (h : Imp w0 L L') (h' : Imp w0 L' L'') : Imp w0 L L'' := ⟨fun w hs => h'.go w (h.go w hs)⟩
theorem Imp.of_pick {w0 : World} {L L' : List Asn} {A : Asn} (p : Pick L A L') : Imp w0 L (A :: L') := ⟨fun _ hs => hs.pick p⟩
theorem Imp.skip {w0 : World} {L L' : List Asn} {A : Asn} (p : Pick L A L') : Imp w0 L L' := ⟨fun _ hs => (hs.pick p).drop⟩
theorem Imp.sub {w0 : World} {L L' : List Asn} (s : Sub L L') : Imp w0 L L' := ⟨fun _ hs => hs.sub s⟩

section
variable {w0 w : World} {L L' : List Asn} {α : Type} {E : El α} {A : Option Addr} {c : Nat} {xs : List α}
theorem Rd.imp (h : Rd w0 L' E A c xs) (hi : Imp w0 L L') : Rd w0 L E A c xs := ⟨fun w hs => h.go w (hi.go w hs)⟩
theorem BlkRd.imp {g : Nat} {t : TypeId} {cs : List Value} (h : BlkRd w0 L' g t cs) (hi : Imp w0 L L') : BlkRd w0 L g t cs := ⟨fun w hs => h.go w (hi.go w hs)⟩
theorem BlkRd.of_pick {g : Nat} {t : TypeId} {cs : List Value} (p : Pick L (blk g t cs) L') : BlkRd w0 L g t cs := ⟨fun w hs => by
  obtain ⟨D, hD⟩ := (hs.pick p).read
  exact (on_high hD).2.2⟩
theorem cell_of_heap {g : Nat} {cur : Array Value} {t : TypeId} {fz : Nat × Nat} (h : w.heap[g]? = some (.cells cur t fz)) (o : Nat) : w.cell? ⟨g, o, none⟩ = cur[o]? := by simp [World.cell?, h]
theorem row.rdw {D : Nat → Prop} {B : Nat} (h : row E A c xs (on (high B w) D)) : RdW w E A c xs := by
  rcases h with ⟨rfl, rfl⟩ | ⟨g, cur, rfl, hg, hl, hm, hs, hx⟩
  · exact ⟨Nat.le_refl _, by simp [maxLen], fun k x hk => by simp at hk⟩
  · refine ⟨hl, hm, fun k x hk => ⟨_, rfl, fun j u hj => ?_⟩⟩
    rw [add_mk, Nat.zero_add, cell_of_heap (on_high hg).2.2]
    have h1 := E.flat_get xs k x j u hk hj
    rw [← hx] at h1
    rw [List.getElem?_take] at h1
    split at h1
    · simpa using h1
    · cases h1
theorem Rd.of_pick (p : Pick L (row E A c xs) L') : Rd w0 L E A c xs := ⟨fun w hs => by
  obtain ⟨D, hD⟩ := (hs.pick p).read
  exact row.rdw hD⟩
theorem Rd.le (h : Rd w0 L E A c xs) (w : World) (hs : St w0 w L) : xs.length ≤ c ∧ c ≤ maxLen := ⟨(h.go w hs).1, (h.go w hs).2.1⟩
/-- a part of what is read -/
theorem Rd.take (h : Rd w0 L E A c xs) (k : Nat) : Rd w0 L E A c (xs.take k) := ⟨fun w hs => by
  obtain ⟨h1, h2, h3⟩ := h.go w hs
  refine ⟨Nat.le_trans (by simp; omega) h1, h2, fun i x hi => h3 i x ?_⟩
  rw [List.getElem?_take] at hi
  split at hi
  · exact hi
  · cases hi⟩
theorem Rd.cap {c' : Nat} (h : Rd w0 L E A c xs) (h1 : xs.length ≤ c') (h2 : c' ≤ c) : Rd w0 L E A c' xs := ⟨fun w hs => by
  obtain ⟨_, h4, h3⟩ := h.go w hs
  exact ⟨h1, by omega, h3⟩⟩
theorem Rd.drop (h : Rd w0 L E A c xs) (k : Nat) : Rd w0 L E (if c = k then A else A.map (·.add (k * E.size))) (c - k) (xs.drop k) := ⟨fun w hs => by
  obtain ⟨h1, h2, h3⟩ := h.go w hs
  refine ⟨by simp; omega, by omega, fun i x hi => ?_⟩
  rw [List.getElem?_drop] at hi
  obtain ⟨ad, rfl, hc⟩ := h3 _ x hi
  have hlt := (List.getElem?_eq_some_iff.1 hi).1
  rw [if_neg (by omega)]
  refine ⟨_, rfl, fun j u hj => ?_⟩
  rw [add_add]
  have := hc j u hj
  rwa [Nat.add_mul, Nat.add_assoc] at this⟩
theorem Rd.nil {A : Option Addr} (hc : c ≤ maxLen) : Rd w0 L E A c [] := ⟨fun _ _ => ⟨by simp, hc, fun k x hk => by simp at hk⟩⟩
end

section
variable {P : Program} {w : World} {t : TypeId} {agg : Bool} {size : Nat} {zc : List Value}
theorem TyOk.run_isAgg (h : TyOk P t agg size zc) (w : World) : (isAgg t).run P w = .ok agg w := by
  have hu := h.und
  cases hd : P.underlying t with
  | none => rw [hd] at hu; cases hu
  | some d =>
    rw [hd] at hu
    simp only [Option.map_some, Option.some.injEq] at hu
    unfold isAgg
    rw [Sem.run_bind, run_underlying hd]
    simp only [Result.andThen_ok]
    cases d <;> simp [isAggD] at hu ⊢ <;> exact hu
theorem TyOk.run_info (h : TyOk P t agg size zc) : ∃ i, P.info? t = some i ∧ i.size = size ∧ ∃ z, i.zero = some z ∧ z.cells.toList = zc := by
  have hi := h.info
  cases hd : P.info? t with
  | none => rw [hd] at hi; cases hi
  | some i =>
    rw [hd] at hi
    simp only [Option.map_some, Option.some.injEq, Prod.mk.injEq] at hi
    refine ⟨i, rfl, hi.1, ?_⟩
    cases hz : i.zero with
    | none => rw [hz] at hi; simp at hi
    | some z => rw [hz] at hi; exact ⟨z, rfl, by simpa using hi.2⟩
theorem run_typeInfo' {i : TypeInfo} (h : P.info? t = some i) (w : World) : (typeInfo t).run P w = .ok i w := by
  simp [typeInfo, program, h, Sem.run, bind, Sem.bind]
theorem TyOk.run_sizeOf (h : TyOk P t agg size zc) (w : World) : (Go.sizeOf t).run P w = .ok size w := by
  obtain ⟨i, hi, hs, _⟩ := h.run_info
  unfold Go.sizeOf
  rw [Sem.run_bind, run_typeInfo' hi]
  simp [hs]
theorem TyOk.run_zero (h : TyOk P t agg size zc) : ∃ z, z.cells.toList = zc ∧ ∀ w, (zeroValue t).run P w = .ok z w := by
  obtain ⟨i, hi, _, z, hz, hzc⟩ := h.run_info
  refine ⟨z, hzc, fun w => ?_⟩
  unfold zeroValue
  rw [Sem.run_bind, run_typeInfo' hi]
  simp [hz]

theorem run_load {w : World} {a : Addr} {v : Value} (h : w.cell? a = some v) : (load a).run P w = .ok v w := by simp [load, Sem.run, h]
theorem run_loadVar_agg (h : TyOk P t true size zc) {a : Addr} (cs : List Value) (hl : cs.length = size) (hc : ∀ j u, cs[j]? = some u → w.cell? (a.add j) = some u) : (loadVar t a).run P w = .ok (.agg cs.toArray) w := by
  unfold loadVar
  rw [Sem.run_bind, h.run_isAgg]
  simp only [Result.andThen_ok, if_true]
  rw [Sem.run_bind, h.run_sizeOf]
  simp only [Result.andThen_ok]
  rw [Sem.run_bind, ← hl, run_loadCells_list (P := P) w a cs hc]
  simp
theorem run_loadVar_one (h : TyOk P t false size zc) {a : Addr} {v : Value} (hc : w.cell? a = some v) : (loadVar t a).run P w = .ok v w := by
  unfold loadVar
  rw [Sem.run_bind, h.run_isAgg]
  simp [hc]
theorem run_loadVar_el {α : Type} {E : El α} (h : TyOk P E.ty E.agg E.size zc) {a : Addr} (x : α) (hc : ∀ j u, (E.enc x)[j]? = some u → w.cell? (a.add j) = some u) : (loadVar E.ty a).run P w = .ok (E.val x) w := by
  cases ha : E.agg with
  | true =>
    rw [ha] at h
    have := run_loadVar_agg (w := w) h (E.enc x) (E.enc_length x) hc
    rw [this, E.hagg ha x]
    simp [El.enc]
  | false =>
    rw [ha] at h
    refine run_loadVar_one h ?_
    have h0 := hc 0 (E.val x) (by simp [El.enc, E.hsc ha x])
    simpa [Addr.add] using h0
theorem run_storeVar_at (h : TyOk P t agg size zc) {g o : Nat} {v : Value} {cur : Array Value} {et : TypeId} (hv : v.cells.size = size) (h1 : ∀ u ∈ v.cells.toList, u.oneCell' = true) (hg : w.heap[g]? = some (.cells cur et (0, 0))) (hle : o + size ≤ cur.size) :
    (storeVar t ⟨g, o, none⟩ v).run P w = .ok () (w.setRow g (cur.toList.take o ++ v.cells.toList ++ cur.toList.drop (o + size)).toArray) := by
  unfold storeVar
  rw [Sem.run_bind, h.run_sizeOf]
  simp only [Result.andThen_ok, hv, ne_eq, not_true_eq_false, if_false]
  have hl : v.cells.toList.length = size := by simpa using hv
  have := run_storeCells_at (P := P) g o et v.cells.toList 0 cur w hg (by omega) h1
  simpa [hl] using this
end
end SG
