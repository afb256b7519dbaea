/- Rules for operations, third part: slices, append, make, calls. -/
import Derived.Test.YtllepoepfkobfaaOp2
namespace SG
open Go Go.RowKit
set_option linter.unusedVariables false

section
variable {P : Program} {Q : Exit → Act → World → Prop} {w0 : World} {N : Nat} {fs : List Kf} {ops : Array Oper} {rest : List Oper} {F : Env} {L L1 L' : List Asn}
variable {dst : Option Tmp} {ty : TypeId} {pos : String} {after : Array Edge} {x y : Operand}

/-! ## cutting -/
theorem run_bound {i : Int} {b : Nat} {code : BoundsCode} (h0 : 0 ≤ i) (h1 : i ≤ b) (w : World) : (Instr.sliceBound (.int .i64 i) b code).run P w = .ok i.toNat w := by
  simp [Instr.sliceBound, asIntOf, h0, h1]
theorem map_add0 (A : Option Addr) : A.map (·.add 0) = A := by cases A <;> simp [Addr.add]
/-- 'x[:h]' -/
theorem Ev.cut_to {α : Type} {E : El α} {st : TypeId} {bytes : Nat} {z : α} {A : Option Addr} {n c k : Nat} {i : Int} {hi : Operand} [hE : SlOk P st E bytes z] (hx : ev F x = some (.slice A n c)) (hh : ev F hi = some (.int .i64 i))
    (hik : i = (k : Int)) (hk : k ≤ c) : EvP P N ⟨dst, .slice st x none (some hi) none, ty, pos, after, none⟩ F ((.slice A k c)) := ⟨rfl, fun a w hf => by
    subst hik
    have h1 := run_bound (P := P) (i := (k : Int)) (b := c) (code := .sliceAcap) (by omega) (by omega) w
    simp [execOp, hf.ev hx, hf.ev hh, Instr.sliceAt, run_underlying hE.und, Instr.slice, Instr.sliceBounds, h1, hE.el.run_sizeOf, map_add0]⟩
/-- 'x[l:]' -/
theorem Ev.cut_from {α : Type} {E : El α} {st : TypeId} {bytes : Nat} {z : α} {A : Option Addr} {n c k : Nat} {i : Int} {lo : Operand} [hE : SlOk P st E bytes z] (hx : ev F x = some (.slice A n c)) (hh : ev F lo = some (.int .i64 i))
    (hik : i = (k : Int)) (hk : k ≤ n) : EvP P N ⟨dst, .slice st x (some lo) none none, ty, pos, after, none⟩ F ((.slice (if c = k then A else A.map (·.add (k * E.size))) (n - k) (c - k))) := ⟨rfl, fun a w hf => by
    subst hik
    have h1 := run_bound (P := P) (i := (k : Int)) (b := n) (code := .sliceB) (by omega) (by omega) w
    simp [execOp, hf.ev hx, hf.ev hh, Instr.sliceAt, run_underlying hE.und, Instr.slice, Instr.sliceBounds, h1, hE.el.run_sizeOf]⟩
/-- 'x[:h:m]' -/
theorem Ev.cut3 {α : Type} {E : El α} {st : TypeId} {bytes : Nat} {z : α} {A : Option Addr} {n c k m : Nat} {i j : Int} {hi mx : Operand} [hE : SlOk P st E bytes z] (hx : ev F x = some (.slice A n c)) (hh : ev F hi = some (.int .i64 i)) (hm : ev F mx = some (.int .i64 j))
    (hik : i = (k : Int)) (hjm : j = (m : Int)) (hk : k ≤ m) (hmc : m ≤ c) : EvP P N ⟨dst, .slice st x none (some hi) (some mx), ty, pos, after, none⟩ F ((.slice A k m)) := ⟨rfl, fun a w hf => by
    subst hik
    subst hjm
    have h1 := run_bound (P := P) (i := (m : Int)) (b := c) (code := .slice3Acap) (by omega) (by omega) w
    have h2 := run_bound (P := P) (i := (k : Int)) (b := m) (code := .slice3B) (by omega) (by omega) w
    simp [execOp, hf.ev hx, hf.ev hh, hf.ev hm, Instr.sliceAt, run_underlying hE.und, Instr.slice, Instr.sliceBounds, h1, h2, hE.el.run_sizeOf, map_add0]⟩
/-- 'x[l:h]' -/
theorem Ev.cut2 {α : Type} {E : El α} {st : TypeId} {bytes : Nat} {z : α} {A : Option Addr} {n c k m : Nat} {i j : Int} {lo hi : Operand} [hE : SlOk P st E bytes z] (hx : ev F x = some (.slice A n c)) (hl : ev F lo = some (.int .i64 i)) (hh : ev F hi = some (.int .i64 j))
    (hik : i = (k : Int)) (hjm : j = (m : Int)) (hk : k ≤ m) (hmc : m ≤ c) : EvP P N ⟨dst, .slice st x (some lo) (some hi) none, ty, pos, after, none⟩ F (.slice (if c = k then A else A.map (·.add (k * E.size))) (m - k) (c - k)) := ⟨rfl, fun a w hf => by
    subst hik
    subst hjm
    have h1 := run_bound (P := P) (i := (m : Int)) (b := c) (code := .sliceAcap) (by omega) (by omega) w
    have h2 := run_bound (P := P) (i := (k : Int)) (b := m) (code := .sliceB) (by omega) (by omega) w
    simp [execOp, hf.ev hx, hf.ev hh, hf.ev hl, Instr.sliceAt, run_underlying hE.und, Instr.slice, Instr.sliceBounds, h1, h2, hE.el.run_sizeOf]⟩

/-! ## make -/
theorem range_zero (zc : List Value) (n : Nat) (hz : 0 < zc.length) : ((List.range (n * zc.length)).map fun i => zc.toArray[i % zc.toArray.size]!) = (List.replicate n zc).flatten := by
  induction n with
  | zero => simp
  | succ n ih =>
    rw [Nat.succ_mul, List.range_add, List.map_append, ih, List.replicate_succ']
    simp only [List.flatten_append, List.flatten_cons, List.flatten_nil, List.append_nil]
    congr 1
    apply List.ext_getElem?
    intro i
    by_cases hi : i < zc.length
    · simp [Nat.mod_eq_of_lt hi, hi]
    · rw [List.getElem?_eq_none (by simp; omega), List.getElem?_eq_none (by omega)]
theorem flat_replicate {α : Type} (E : El α) (z : α) (n : Nat) : E.flat (List.replicate n z) = (List.replicate n (E.enc z)).flatten := by
  simp [El.flat, List.flatMap_replicate]
theorem row.mk_new {α : Type} {E : El α} {w : World} {xs : List α} {k : Heap} (hm : xs.length ≤ maxLen) (h : k w.heap.size = some (.cells (E.flat xs).toArray E.ty (0, 0))) : row E (some ⟨w.heap.size, 0, none⟩) xs.length xs k :=
  .inr ⟨_, _, rfl, h, Nat.le_refl _, hm, by simp [E.flat_length], by simp [← E.flat_length]⟩
theorem St.new_row {w : World} {α : Type} (E : El α) (xs : List α) (hm : xs.length ≤ maxLen) (h : St w0 w L) : St w0 (w.alloc (.cells (E.flat xs).toArray E.ty)) (row E (some ⟨w.heap.size, 0, none⟩) xs.length xs :: L) :=
  h.new _ fun k hk => row.mk_new hm hk
theorem GL.make {dd : Tmp} {α : Type} {E : El α} {st : TypeId} {bytes : Nat} {z : α} {n : Nat} {i j : Int} [hE : SlOk P st E bytes z] (hx : ev F x = some (.int .i64 i)) (hy : ev F y = some (.int .i64 j)) (hik : i = (n : Int)) (hjk : j = (n : Int)) (hb : n * bytes ≤ 281474976710656) (hn : n ≤ 281474976710656) (hd : Nat.blt dd N = true)
    (h : ∀ g, GL P Q w0 N false fs ops rest ((dd, (.slice (some ⟨g, 0, none⟩) n n)) :: F) (row E (some ⟨g, 0, none⟩) n (List.replicate n z) :: L)) : GL P Q w0 N false fs ops (⟨some dd, .makeSlice st x y, ty, pos, after, none⟩ :: rest) F L := by
  refine GL.step (R := fun v L' => ∃ g, v = .slice (some ⟨g, 0, none⟩) n n ∧ L' = row E (some ⟨g, 0, none⟩) n (List.replicate n z) :: L) rfl hd (fun a w hf hs => ?_) (by rintro _ _ ⟨g, rfl, rfl⟩; exact h g)
  subst hik
  subst hjk
  have hml : (List.replicate n z).length ≤ maxLen := by simp [maxLen]; omega
  refine ⟨_, _, _, ?_, ⟨w.heap.size, rfl, rfl⟩, by simpa using hs.new_row E (List.replicate n z) hml⟩
  obtain ⟨i0, hi0, hs0, z0, hz0, hzc⟩ := hE.el.run_info
  have hby : i0.bytes = bytes := by have := hE.bytes; rw [hi0] at this; simpa using this
  obtain ⟨z1, hz1, hrz⟩ := hE.el.run_zero
  have w1 : IntKind.i64.wrap (n : Int) = n := IntWalk.i64_in _ ⟨by omega, by omega⟩
  have hcells : z1.cells = (E.enc z).toArray := by rw [← hz1]
  have hbI : ((bytes : Int) * (n : Int)) ≤ 281474976710656 := by
    have : ((n * bytes : Nat) : Int) ≤ 281474976710656 := by omega
    rw [Int.natCast_mul, Int.mul_comm] at this; exact this
  have harr : ((Array.range (n * E.size)).map fun i => (E.enc z).toArray[i % (E.enc z).toArray.size]!) = (E.flat (List.replicate n z)).toArray := by
    have e := range_zero (E.enc z) n (by rw [E.enc_length]; exact E.hpos)
    rw [E.enc_length] at e
    rw [flat_replicate, ← e]
    apply Array.ext'
    simp
  by_cases hn0 : n * E.size = 0
  · have hn1 : n = 0 := by
      rcases Nat.mul_eq_zero.1 hn0 with h0 | h0
      · exact h0
      · have := E.hpos; omega
    subst hn1
    have wz : IntKind.i64.wrap 0 = 0 := by decide
    simp [wz, execOp, hf.ev hx, hf.ev hy, Instr.makeSlice, run_underlying hE.und, asInt, asIntOf, run_typeInfo' hi0, hE.el.run_sizeOf, newRow, newObj, askRoom, roomBytes, El.flat]
    have er : (Array.map (fun x => (default : Value)) (Array.range 0)) = #[] := by simp
    rw [er]
    rfl
  · simp [execOp, hf.ev hx, hf.ev hy, Instr.makeSlice, run_underlying hE.und, asInt, asIntOf, run_typeInfo' hi0, w1, hE.el.run_sizeOf, newRow, newObj, hby, hn0, hrz, hcells, show ¬ ((n : Int) < 0) by omega, show ¬ ((281474976710656 : Int) < bytes * n) by omega]
    have harr2 : Array.map (fun i => (E.enc z)[i % (E.enc z).length]?.getD default) (Array.range (n * E.size)) = (E.flat (List.replicate n z)).toArray := by
      rw [← harr]
      congr 1
      funext i
      simp
    rw [harr2]
    rfl

/-! ## append -/
theorem run_append_zero {α : Type} {E : El α} {st ty : TypeId} {bytes : Nat} {z : α} (hE : SlOk P st E bytes z) {w : World} {A B : Option Addr} {n c d : Nat} (hnc : n ≤ c) :
    (Builtin.append_ #[st, st] ty #[.slice A n c, .slice B 0 d]).run P w = .ok (.slice A n c) w := by
  cases A <;> cases B <;> simp [Builtin.append_, run_underlying hE.und, hE.el.run_sizeOf, Builtin.lenOf, hnc, Builtin.firstCells, loadCells, loadCellsFrom, storeCells]
theorem St.append {α : Type} {E : El α} {st ty : TypeId} {bytes : Nat} {z : α} (hE : SlOk P st E bytes z) {w : World} {A B : Option Addr} {c d : Nat} {xs ys : List α} (hs : St w0 w (row E A c xs :: L)) (hr : RdW w E B d ys)
    (hm : xs.length + ys.length ≤ maxLen) (hb : (xs.length + ys.length) * bytes ≤ 140737488355328) :
    ∃ A' c' w', (Builtin.append_ #[st, st] ty #[.slice A xs.length c, .slice B ys.length d]).run P w = .ok (.slice A' (xs.length + ys.length) c') w' ∧ St w0 w' (row E A' c' (xs ++ ys) :: L) := by
  have hsz := hs.size
  by_cases h0 : ys = []
  · subst h0
    refine ⟨A, c, w, ?_, by simpa using hs⟩
    have hle : xs.length ≤ c := by
      rcases hs.row_cases with ⟨h1, h2⟩ | ⟨_, _, _, _, _, h1, _⟩
      · subst h2; simp
      · exact h1
    simpa using run_append_zero hE (ty := ty) (w := w) (A := A) (B := B) (d := d) hle
  · obtain ⟨hyl, hdm, hget⟩ := hr
    have hyp : 0 < ys.length := List.length_pos_iff.2 h0
    obtain ⟨b, hB, _⟩ := hget 0 ys[0] (List.getElem?_eq_getElem hyp)
    subst hB
    have hnews : ∀ j u, (E.flat ys)[j]? = some u → w.cell? (b.add j) = some u := by
      intro j u hj
      have hjl : j < ys.length * E.size := by rw [← E.flat_length]; exact (List.getElem?_eq_some_iff.1 hj).1
      have hk : j / E.size < ys.length := Nat.div_lt_of_lt_mul (by rw [Nat.mul_comm]; exact hjl)
      obtain ⟨b', hb', hc⟩ := hget (j / E.size) (ys[j / E.size]) (List.getElem?_eq_getElem hk)
      injection hb' with hb'
      subst hb'
      have hm' : j % E.size < (E.enc ys[j / E.size]).length := by rw [E.enc_length]; exact Nat.mod_lt _ E.hpos
      have h1 := E.flat_get ys (j / E.size) (ys[j / E.size]) (j % E.size) _ (List.getElem?_eq_getElem hk) (List.getElem?_eq_getElem hm')
      have h2 := hc (j % E.size) _ (List.getElem?_eq_getElem hm')
      have e : j / E.size * E.size + j % E.size = j := by rw [Nat.mul_comm]; exact Nat.div_add_mod j E.size
      rw [e] at h1 h2
      rw [h1] at hj
      injection hj with hj
      rw [← hj]; exact h2
    obtain ⟨i0, hi0, hs0, z0, hz0, hzc⟩ := hE.el.run_info
    have hby : i0.bytes = bytes := by have := hE.bytes; rw [hi0] at this; simpa using this
    have hl : (E.flat ys).length = ys.length * i0.size := by rw [E.flat_length, hs0]
    have hzs : z0.cells.size = E.size := by rw [← Array.length_toList, hzc, E.enc_length]
    have hsmall : xs.length + ys.length ≤ 9223372036854775807 := by simp only [maxLen] at hm; omega
    -- what the growing arm leaves
    have grown : ∀ (old : Nat), old < xs.length + ys.length →
        St w0 (w.drew.alloc (.cells ((E.flat xs).toArray ++ (E.flat ys).toArray ++ Builtin.zeroCells z0.cells (grownCap w (xs.length + ys.length) old E.ty - (xs.length + ys.length))) E.ty))
          (row E (some ⟨w.heap.size, 0, none⟩) (grownCap w (xs.length + ys.length) old E.ty) (xs ++ ys) :: L) := by
      intro old ho
      have hge := grownCap_ge w (xs.length + ys.length) old E.ty
      have hcm : grownCap w (xs.length + ys.length) old E.ty ≤ maxLen := grownCap_le_maxLen w (xs.length + ys.length) old E.ty hm
      have hdr : St w0 w.drew L := hs.drop.drew
      refine hdr.new _ fun k hk => .inr ⟨_, _, rfl, hk, by simp; omega, hcm, ?_, ?_⟩
      · refine Nat.le_of_eq (Eq.symm ?_)
        simp only [Array.size_append, List.size_toArray, size_zeroCells, hzs, E.flat_length, ← Nat.add_mul]
        congr 1
        omega
      · simp only [Array.toList_append, List.append_assoc]
        rw [← List.append_assoc, ← E.flat_append, ← E.flat_length]
        exact List.take_left
    have hbz : (xs.length + ys.length) * i0.bytes ≤ 140737488355328 := by rw [hby]; exact hb
    rcases hs.row_cases with ⟨hc0, hx0⟩ | ⟨g, cur, hA, hbg, hg, hnc, hcm, hcs, htake⟩
    · subst hc0
      subst hx0
      cases A with
      | none =>
        have hr := run_append_nil (P := P) w st ty E.ty i0 z0 hE.und hi0 hz0 b ys.length d (E.flat ys) hl hnews (by omega) (by simp at hsmall; omega) (by simpa using Nat.le_trans hbz (by omega))
        have hgr := grown 0 (by simpa using hyp)
        simp only [List.length_nil, Nat.zero_add, List.nil_append] at hgr ⊢
        refine ⟨_, _, _, hr, ?_⟩
        simpa [El.flat] using hgr
      | some ad =>
        have hr := run_append_grow (P := P) w st ty E.ty i0 z0 hE.und hi0 hz0 ad 0 0 [] (by simp) (by simp) b ys.length d (E.flat ys) hl hnews (by omega) (by simp at hsmall; omega) (growslice_fits (by omega) (by simpa using hbz))
        have hgr := grown 0 (by simpa using hyp)
        simp only [List.length_nil, Nat.zero_add, List.nil_append] at hgr hr ⊢
        exact ⟨_, _, _, hr, by simpa [El.flat] using hgr⟩
    · subst hA
      by_cases hroom : xs.length + ys.length ≤ c
      · have hfit : xs.length * i0.size + (E.flat ys).length ≤ cur.size := by rw [hl, hs0, ← Nat.add_mul]; exact Nat.le_trans (Nat.mul_le_mul_right _ hroom) hcs
        have hr := run_append_room (P := P) w st ty E.ty i0 hE.und hi0 g xs.length c cur hg b ys.length d (E.flat ys) hl hnews (E.flat_one ys) hroom hfit
        refine ⟨_, _, _, hr, hs.setRow_row (.inr (by omega)) hg (by simp; omega) ?_ ?_⟩
        · simp only [List.size_toArray, List.length_append, List.length_take, List.length_drop, Array.length_toList]
          omega
        · rw [hs0, htake, List.toList_toArray, ← E.flat_append, ← E.flat_length]
          exact List.take_left
      · have holds : ∀ j u, (E.flat xs)[j]? = some u → w.cell? ((⟨g, 0, none⟩ : Addr).add j) = some u := by
          intro j u hj
          rw [add_mk, Nat.zero_add, cell_of_heap hg]
          rw [← htake, List.getElem?_take] at hj
          split at hj
          · simpa using hj
          · cases hj
        have hr := run_append_grow (P := P) w st ty E.ty i0 z0 hE.und hi0 hz0 ⟨g, 0, none⟩ xs.length c (E.flat xs) (by rw [E.flat_length, hs0]) holds b ys.length d (E.flat ys) hl hnews (by omega) (by omega) (growslice_fits (by omega) hbz)
        exact ⟨_, _, _, hr, grown c (by omega)⟩
theorem GL.append {dd : Tmp} {α : Type} {E : El α} {st : TypeId} {bytes : Nat} {z : α} {A B : Option Addr} {n m c d : Nat} {xs ys : List α} [hE : SlOk P st E bytes z] (hx : ev F x = some (.slice A n c)) (hy : ev F y = some (.slice B m d))
    (pk : Pick L (row E A c xs) L1) (hr : Rd w0 L' E B d ys) (hi : Imp w0 L L') (hn : n = xs.length) (hm : m = ys.length) (hb : (xs.length + ys.length) * bytes ≤ 140737488355328) (hmx : xs.length + ys.length ≤ 140737488355328) (hd : Nat.blt dd N = true)
    (h : ∀ A' c', GL P Q w0 N false fs ops rest ((dd, (.slice A' (xs ++ ys).length c')) :: F) (row E A' c' (xs ++ ys) :: L1)) :
    GL P Q w0 N false fs ops (⟨some dd, .call { callee := .builtin .append, args := #[x, y], argTypes := #[st, st] }, ty, pos, after, none⟩ :: rest) F L := by
  refine GL.step (R := fun v L' => ∃ A' c', v = .slice A' (xs ++ ys).length c' ∧ L' = row E A' c' (xs ++ ys) :: L1) rfl hd (fun a w hf hs => ?_) (by rintro _ _ ⟨A', c', rfl, rfl⟩; exact h A' c')
  subst hn
  subst hm
  obtain ⟨A', c', w', hrun, hs'⟩ := St.append hE (ty := ty) (hs.pick pk) (hr.go w (hi.go w hs)) (by simp only [maxLen]; omega) hb
  refine ⟨_, w', _, ?_, ⟨A', c', rfl, rfl⟩, hs'⟩
  simp [execOp, resolve, invoke, builtin, hf.ev hx, hf.ev hy, hrun, List.length_append]

/-! ## values built -/
def evs (F : Env) : List (Nat × Operand) → Option (List (Nat × Value))
  | [] => some []
  | (i, x) :: r => match ev F x, evs F r with
    | some v, some vs => some ((i, v) :: vs)
    | _, _ => none
theorem Fr.evs {a : Act} (hf : Fr N a F) : ∀ {ps : List (Nat × Operand)} {vs : List (Nat × Value)}, evs F ps = some vs → ps.map (fun (i, x) => (i, a.eval x)) = vs := by
  intro ps
  induction ps with
  | nil => intro vs h; simp [SG.evs] at h; subst h; rfl
  | cons p r ih =>
    obtain ⟨i, x⟩ := p
    intro vs h
    simp only [SG.evs] at h
    split at h
    · rename_i v us hv hu
      injection h with h
      subst h
      simp [hf.ev hv, ih hu]
    · cases h
structure BdOk (P : Program) (t : TypeId) (vs : List (Nat × Value)) (v : Value) : Prop where
  run : ∀ w, (Instr.build t vs.toArray).run P w = .ok v w
structure BsOk (P : Program) (t : TypeId) (n : Nat) (vs : List (Nat × Value)) {α : Type} (E : El α) (xs : List α) : Prop where
  run : ∀ w, (Instr.buildSlice t n vs.toArray).run P w = .ok (.slice (some ⟨w.heap.size, 0, none⟩) n n) (w.alloc (.cells (E.flat xs).toArray E.ty))
theorem Ev.build {t : TypeId} {ps : List (Nat × Operand)} {vs : List (Nat × Value)} {v : Value} (hp : evs F ps = some vs) (hq : BdOk P t vs v) : EvP P N ⟨dst, .build t ps.toArray, ty, pos, after, none⟩ F v := ⟨rfl, fun a w hf => by
    have e := hf.evs hp
    simp only [execOp, List.map_toArray, e]
    rw [Sem.run_bind, hq.run]; rfl⟩
theorem GL.buildSlice {dd : Tmp} {α : Type} {E : El α} {t : TypeId} {n : Nat} {ps : List (Nat × Operand)} {vs : List (Nat × Value)} {xs : List α} (hp : evs F ps = some vs)
    (hq : BsOk P t n vs E xs) (hn : xs.length = n) (hm : n ≤ 1000) (hd : Nat.blt dd N = true)
    (h : ∀ g, GL P Q w0 N false fs ops rest ((dd, (.slice (some ⟨g, 0, none⟩) n n)) :: F) (row E (some ⟨g, 0, none⟩) n xs :: L)) : GL P Q w0 N false fs ops (⟨some dd, .buildSlice t n ps.toArray, ty, pos, after, none⟩ :: rest) F L := by
  refine GL.step (R := fun v L' => ∃ g, v = .slice (some ⟨g, 0, none⟩) n n ∧ L' = row E (some ⟨g, 0, none⟩) n xs :: L) rfl hd (fun a w hf hs => ?_) (by rintro _ _ ⟨g, rfl, rfl⟩; exact h g)
  subst hn
  refine ⟨_, _, _, ?_, ⟨w.heap.size, rfl, rfl⟩, hs.new_row E xs (by simp only [maxLen]; omega)⟩
  have e := hf.evs hp
  simp only [execOp, List.map_toArray, e]
  rw [Sem.run_bind, hq.run]; rfl

theorem GL.box_agg {dd : Tmp} {t : TypeId} {cs : List Value} (hx : ev F x = some (.agg cs.toArray)) (hd : Nat.blt dd N = true)
    (h : ∀ g, GL P Q w0 N false fs ops rest ((dd, (.pointer (some ⟨g, 0, none⟩))) :: F) (blk g t cs :: L)) : GL P Q w0 N false fs ops (⟨some dd, .box t x, ty, pos, after, none⟩ :: rest) F L := GL.box hx rfl hd h
theorem GL.box_one {dd : Tmp} {t : TypeId} {v : Value} (hx : ev F x = some v) (hv : v.cells = #[v]) (hd : Nat.blt dd N = true)
    (h : ∀ g, GL P Q w0 N false fs ops rest ((dd, (.pointer (some ⟨g, 0, none⟩))) :: F) (blk g t [v] :: L)) : GL P Q w0 N false fs ops (⟨some dd, .box t x, ty, pos, after, none⟩ :: rest) F L := GL.box hx (by rw [hv]) hd h
theorem GL.store_var1 {g : Nat} {t bt : TypeId} {agg : Bool} {zc : List Value} {p : Addr} {v u : Value} [hT : TyOk P t agg 1 zc] (hx : ev F x = some (.pointer (some p))) (hp : p = ⟨g, 0, none⟩)
    (hy : ev F y = some v) (pk : Pick L (blk g bt [u]) L1) (hv : v.cells = #[v]) (h1 : v.oneCell' = true)
    (h : GL P Q w0 N false fs ops rest F (blk g bt [v] :: L1)) : GL P Q w0 N false fs ops (⟨none, .store t x y, ty, pos, after, none⟩ :: rest) F L :=
  GL.store_blk_all (cs' := [v]) hx hp hy pk rfl (by rw [hv]) rfl (by simpa using h1) h
theorem GL.store_varN {g : Nat} {t bt : TypeId} {agg : Bool} {size : Nat} {zc cs cs' : List Value} {p : Addr} [hT : TyOk P t agg size zc] (hx : ev F x = some (.pointer (some p))) (hp : p = ⟨g, 0, none⟩)
    (hy : ev F y = some (.agg cs'.toArray)) (pk : Pick L (blk g bt cs) L1) (hl : cs.length = size) (hl' : cs'.length = size) (h1 : (cs'.all (·.oneCell')) = true)
    (h : GL P Q w0 N false fs ops rest F (blk g bt cs' :: L1)) : GL P Q w0 N false fs ops (⟨none, .store t x y, ty, pos, after, none⟩ :: rest) F L :=
  GL.store_blk_all hx hp hy pk hl rfl hl' h1 h

theorem GE.ret_cell {fn : Func} {R : Value → List Asn → Prop} {d : Tmp} {t bt : TypeId} {g size : Nat} {zc cs : List Value} {p : Addr} {e : Exit} (he : e = .ret ∨ e = .normal) (hr : fn.results = #[.cell d t]) [hT : TyOk P t true size zc] (hl : look F d = some (.pointer (some p))) (hp : p = ⟨g, 0, none⟩)
    (hb : BlkRd w0 L g bt cs) (hn : cs.length = size) (hs : Sub L L') (hR : R (.agg cs.toArray) L') : GE P (bodyPost P fn (RR w0 R)) w0 N [] e F L := by
  refine GE.ret_run he (fun a w hf hS => ?_) hs hR
  have h1 := hf.val d _ hl
  subst hp
  have hb' := hb.go w hS
  have h2 := run_loadVar_agg (P := P) (w := w) hT (a := ⟨g, 0, none⟩) cs hn (fun j u hj => by rw [add_mk, cell_of_heap hb']; simpa using hj)
  simp [results, hr, Array.getD_eq_getD_getElem?, h1, asAddr, h2]
theorem GE.ret_none {fn : Func} {R : Value → List Asn → Prop} {e : Exit} (he : e = .ret ∨ e = .normal) (hr : fn.results = #[]) (hs : Sub L L') (hR : R (.tuple #[]) L') : GE P (bodyPost P fn (RR w0 R)) w0 N [] e F L :=
  GE.ret_run he (fun a w hf hS => results_none hr _ _ _) hs hR

/-! ## calls -/
def eva (F : Env) : List Operand → Option (List Value)
  | [] => some []
  | x :: r => match ev F x, eva F r with
    | some v, some vs => some (v :: vs)
    | _, _ => none
theorem Fr.eva {a : Act} (hf : Fr N a F) : ∀ {xs : List Operand} {vs : List Value}, eva F xs = some vs → xs.map a.eval = vs := by
  intro xs
  induction xs with
  | nil => intro vs h; simp [SG.eva] at h; subst h; rfl
  | cons x r ih =>
    intro vs h
    simp only [SG.eva] at h
    split at h
    · rename_i v us hv hu
      injection h with h
      subst h
      simp [hf.ev hv, ih hu]
    · cases h
theorem Ev.makeFunc {fn : Fn} {first captured : List Operand} {vs us : List Value} (h1 : eva F first = some vs) (h2 : eva F captured = some us) : EvP P N ⟨dst, .makeFunc fn first.toArray captured.toArray, ty, pos, after, none⟩ F (.func fn vs.toArray us.toArray) := ⟨rfl, fun a w hf => by
  have e1 := hf.eva h1
  have e2 := hf.eva h2
  simp only [execOp, List.map_toArray, e1, e2]; rfl⟩
/-- a function that has a body -/
class FnOk (P : Program) (f : FuncId) : Prop where
  call : ∀ args w, (callFunc f args).run P w = .ok (.enter f args) w
theorem GL.callAny {xs : List Operand} {fv : Operand} {f : FuncId} {first captured : Array Value} {vs : List Value} {argTypes : Array TypeId} {R : Value → List Asn → Prop} (hfv : ev F fv = some (.func (.func f) first captured)) (hv : eva F xs = some vs) [hok : FnOk P f] (hd : fits N dst = true)
    (ht : Tr P f (first ++ vs.toArray ++ captured) w0 L R) (h : ∀ v L', R v L' → GL P Q w0 N false fs ops rest (upd F dst v) L') :
    GL P Q w0 N false fs ops (⟨dst, .call { callee := .value fv, args := xs.toArray, argTypes := argTypes }, ty, pos, after, none⟩ :: rest) F L := by
  refine ⟨fun a w hf hs => ?_⟩
  refine wpList_plain rfl fun K hK => ?_
  have hrun : (execOp a.eval ⟨dst, .call { callee := .value fv, args := xs.toArray, argTypes := argTypes }, ty, pos, after, none⟩).run P w = .ok (.enter f (first ++ vs.toArray ++ captured)) w := by
    have e := hf.eva hv
    simp only [execOp, resolve, List.map_toArray, e, hf.ev hfv, Deferred.ofValue, Sem.run_bind, Sem.run_pure, Result.andThen_ok, invoke, hok.call]
  unfold Oper.wp
  rw [hrun]
  refine (ht.go w hs).mono ?_
  rintro e w' ⟨v, L', hR, rfl, hs'⟩
  exact hK _ _ ((h v L' hR).go _ _ (hf.put dst v hd) hs')
theorem GL.call {xs : List Operand} {f : FuncId} {vs : List Value} {argTypes : Array TypeId} {R : Value → List Asn → Prop} (hv : eva F xs = some vs) [hok : FnOk P f] (hd : fits N dst = true)
    (ht : Tr P f vs.toArray w0 L R) (h : ∀ v L', R v L' → GL P Q w0 N false fs ops rest (upd F dst v) L') :
    GL P Q w0 N false fs ops (⟨dst, .call { callee := .value (.func f), args := xs.toArray, argTypes := argTypes }, ty, pos, after, none⟩ :: rest) F L :=
  GL.callAny (first := #[]) (captured := #[]) rfl hv hd (by simpa using ht) h
/-- a call that hands back a value known beforehand and leaves the state: in a region that draws its order, too -/
theorem GL.callQ {q : Bool} {dd : Tmp} {xs : List Operand} {fv : Operand} {f : FuncId} {first captured : Array Value} {vs : List Value} {argTypes : Array TypeId} {v : Value} (hfv : ev F fv = some (.func (.func f) first captured)) (hv : eva F xs = some vs) [hok : FnOk P f] (hd : Nat.blt dd N = true)
    (ht : Tr P f (first ++ vs.toArray ++ captured) w0 L (fun u L' => u = v ∧ L' = L)) (h : GL P Q w0 N q fs ops rest ((dd, v) :: F) L) :
    GL P Q w0 N q fs ops (⟨some dd, .call { callee := .value fv, args := xs.toArray, argTypes := argTypes }, ty, pos, after, none⟩ :: rest) F L := by
  cases q with
  | false => exact GL.callAny hfv hv hd ht (by rintro _ _ ⟨rfl, rfl⟩; exact h)
  | true =>
    refine ⟨fun a hf => ?_⟩
    refine wpQuiet_step fun K hK => ?_
    rw [if_pos (by simp [Region.wanted])]
    refine ⟨v, fun w hs => ?_, hK _ (h.go _ (hf.put (some dd) v hd))⟩
    have hrun : (execOp a.eval ⟨some dd, .call { callee := .value fv, args := xs.toArray, argTypes := argTypes }, ty, pos, after, none⟩).run P w = .ok (.enter f (first ++ vs.toArray ++ captured)) w := by
      have e := hf.eva hv
      simp only [execOp, resolve, List.map_toArray, e, hf.ev hfv, Deferred.ofValue, Sem.run_bind, Sem.run_pure, Result.andThen_ok, invoke, hok.call]
    unfold Oper.quietAt
    rw [hrun]
    refine ⟨rfl, (ht.go w hs).mono ?_⟩
    rintro e w' ⟨u, L', ⟨rfl, rfl⟩, rfl, hs'⟩
    exact ⟨rfl, hs'⟩
theorem GL.callF {q : Bool} {dd : Tmp} {xs : List Operand} {f : FuncId} {vs : List Value} {argTypes : Array TypeId} {v : Value} (hv : eva F xs = some vs) [hok : FnOk P f] (hd : Nat.blt dd N = true)
    (ht : Tr P f vs.toArray w0 L (fun u L' => u = v ∧ L' = L)) (h : GL P Q w0 N q fs ops rest ((dd, v) :: F) L) :
    GL P Q w0 N q fs ops (⟨some dd, .call { callee := .value (.func f), args := xs.toArray, argTypes := argTypes }, ty, pos, after, none⟩ :: rest) F L :=
  GL.callQ (first := #[]) (captured := #[]) rfl hv hd (by simpa using ht) h
theorem FnOk.of {P : Program} {f : FuncId} {fn : Func} (hf : P.funcs[f]? = some fn) (hn : (fn.name == "runtime.NumGoroutine") = false) (hb : fn.body.isNone = false) : FnOk P f :=
  ⟨fun args w => by
    unfold callFunc
    rw [Sem.run_bind]
    show ((match P.funcs[f]? with | none => _ | some fn => _ : Sem Next).run P w) = _
    rw [hf]
    simp only [hn, hb]
    rfl⟩

/-- one cell of an element of a row of the call's own -/
theorem GL.store_el_cell {α : Type} {E : El α} {t : TypeId} {agg : Bool} {zc : List Value} {A : Option Addr} {c k j : Nat} {xs : List α} (v' : α) {u v : Value} [hT : TyOk P t agg 1 zc] (hx : ev F x = some (.pointer (some ((elA A k E.size).add j))))
    (hy : ev F y = some v) (pk : Pick L (row E A c xs) L1) (hv : v.cells.toList = [u]) (h1 : u.oneCell' = true) (hk : k < xs.length) (hj : j < E.size) (hv' : E.enc v' = (E.enc xs[k]).set j u)
    (h : GL P Q w0 N false fs ops rest F (row E A c (xs.set k v') :: L1)) : GL P Q w0 N false fs ops (⟨none, .store t x y, ty, pos, after, none⟩ :: rest) F L := by
  refine GL.skip rfl rfl (fun a w hf hs => ?_) h
  have hs' := hs.pick pk
  rcases hs'.row_cases with ⟨_, h0⟩ | ⟨g, cur, rfl, hg0, hg, hl, hm, hcs, htk⟩
  · subst h0; simp at hk
  · have hkc : (k + 1) * E.size ≤ cur.size := Nat.le_trans (Nat.mul_le_mul_right _ (by omega)) hcs
    have hkc' : k * E.size + E.size ≤ cur.size := by rw [Nat.succ_mul] at hkc; omega
    have hkx : k * E.size + E.size ≤ xs.length * E.size := by rw [← Nat.succ_mul]; exact Nat.mul_le_mul_right _ hk
    have hxc : xs.length * E.size ≤ cur.size := Nat.le_trans (Nat.mul_le_mul_right _ hl) hcs
    have hrun := run_storeVar_at (P := P) (w := w) hT (g := g) (o := k * E.size + j) (v := v) (by rw [← Array.length_toList, hv]; rfl) (by rw [hv]; simpa using h1) hg (by omega)
    refine ⟨_, ?_, hs'.setRow_row (cur' := (cur.toList.take (k * E.size + j) ++ [u] ++ cur.toList.drop (k * E.size + j + 1)).toArray) (.inl (by intro e; subst e; simp at hk)) hg (by simp; omega) ?_ ?_⟩
    · simp only [execOp, hf.ev hx, hf.ev hy, Instr.storeAt, Instr.sureAddr, elA, Option.getD_some, add_mk, Nat.zero_add]
      simp only [Sem.run_bind, Sem.run_pure, Result.andThen_ok, hrun, hv]
    · simp; omega
    · have e1 : xs = xs.take k ++ xs[k] :: xs.drop (k + 1) := by rw [List.getElem_cons_drop, List.take_append_drop]
      have e2 : xs.set k v' = xs.take k ++ v' :: xs.drop (k + 1) := by rw [List.set_eq_take_append_cons_drop]; simp [hk]
      have l1 : (E.flat (xs.take k)).length = k * E.size := by rw [E.flat_length, List.length_take, Nat.min_eq_left (by omega)]
      have f1 : E.flat xs = E.flat (xs.take k) ++ (E.enc xs[k] ++ E.flat (xs.drop (k + 1))) := by
        conv => lhs; rw [e1]
        rw [E.flat_append]; rfl
      have f2 : E.flat (xs.set k v') = (E.flat xs).set (k * E.size + j) u := by
        rw [e2, E.flat_append, f1, List.set_append, if_neg (by omega)]
        congr 1
        rw [show k * E.size + j - (E.flat (List.take k xs)).length = j by omega, List.set_append, if_pos (by rw [E.enc_length]; exact hj), ← hv']
        rfl
      have hset : cur.toList.take (k * E.size + j) ++ [u] ++ cur.toList.drop (k * E.size + j + 1) = cur.toList.set (k * E.size + j) u := by
        rw [List.set_eq_take_append_cons_drop]; simp; omega
      rw [hset, f2, ← htk]
      simp only [List.length_set]
      exact List.take_set
end
end SG
