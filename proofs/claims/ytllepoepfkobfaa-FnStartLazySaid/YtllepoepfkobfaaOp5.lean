/- More rules: numbers of other kinds, a string's bytes, clear, rows cut off, facts. -/
import Derived.Test.YtllepoepfkobfaaCB
namespace SG
open Go Go.RowKit Go.Proofs
set_option linter.unusedVariables false
set_option linter.unusedSimpArgs false
class StrTy (P : Program) (t : TypeId) : Prop where
  und : P.underlying t = some .string
instance : IntTy Try.prog 143 .u64 := ⟨by kernel_rfl⟩
instance : IntTy Try.prog 162 .u64 := ⟨by kernel_rfl⟩
instance : StrTy Try.prog 9 := ⟨by kernel_rfl⟩
section
variable {P : Program} {N : Nat} {F : Env} {dst : Option Tmp} {ty : TypeId} {pos : String} {after : Array Edge} {x y : Operand} {m n : Int} {t t' : TypeId} {k k' : IntKind}
theorem Ev.lssK (hx : ev F x = some (.int k m)) (hy : ev F y = some (.int k n)) : EvP P N ⟨dst, .binOp .lss t x y t', ty, pos, after, none⟩ F ((.bool (decide (m < n)))) := ⟨rfl, fun a w hf => by simp [execOp, hf.ev hx, hf.ev hy, eqGuard, binOp, Op.intCmp]⟩
theorem Ev.leqK (hx : ev F x = some (.int k m)) (hy : ev F y = some (.int k n)) : EvP P N ⟨dst, .binOp .leq t x y t', ty, pos, after, none⟩ F ((.bool (decide (m ≤ n)))) := ⟨rfl, fun a w hf => by simp [execOp, hf.ev hx, hf.ev hy, eqGuard, binOp, Op.intCmp]⟩
theorem Ev.gtrK (hx : ev F x = some (.int k m)) (hy : ev F y = some (.int k n)) : EvP P N ⟨dst, .binOp .gtr t x y t', ty, pos, after, none⟩ F ((.bool (decide (n < m)))) := ⟨rfl, fun a w hf => by simp [execOp, hf.ev hx, hf.ev hy, eqGuard, binOp, Op.intCmp]⟩
theorem Ev.geqK (hx : ev F x = some (.int k m)) (hy : ev F y = some (.int k n)) : EvP P N ⟨dst, .binOp .geq t x y t', ty, pos, after, none⟩ F ((.bool (decide (n ≤ m)))) := ⟨rfl, fun a w hf => by simp [execOp, hf.ev hx, hf.ev hy, eqGuard, binOp, Op.intCmp]⟩
theorem Ev.conv {s d : TypeId} [hs : IntTy P s k] [hd : IntTy P d k'] (hx : ev F x = some (.int k n)) (hw : k'.wrap n = n) : EvP P N ⟨dst, .convert s d x, ty, pos, after, none⟩ F ((.int k' n)) := ⟨rfl, fun a w hf => by simp [execOp, hf.ev hx, convert, run_underlying hs.und, run_underlying hd.und, Conv.intToInt, hw]⟩
theorem Ev.index_str {s : ByteArray} {i : Nat} {st : TypeId} [hs : StrTy P st] (hx : ev F x = some (.string s)) (hy : ev F y = some (.int k n)) (hi : n = (i : Int)) (hn : i < s.size) : EvP P N ⟨dst, .index st x y, ty, pos, after, none⟩ F (.int .u8 ((s[i].toNat : Nat) : Int)) := ⟨rfl, fun a w hf => by
  subst hi
  simp [execOp, hf.ev hx, hf.ev hy, Instr.index, asIntOf, run_underlying hs.und, hn]⟩
end
section
variable {P : Program} {Q : Exit → Act → World → Prop} {w0 : World} {N : Nat} {fs : List Kf} {ops : Array Oper} {rest : List Oper} {F : Env} {L L1 L' : List Asn}
variable {dst : Option Tmp} {ty : TypeId} {pos : String} {after : Array Edge} {x y : Operand}
theorem GL.callP {xs : List Operand} {f : FuncId} {vs : List Value} {argTypes : Array TypeId} {X : Asn} {R : Value → List Asn → Prop} (hv : eva F xs = some vs) [hok : FnOk P f] (hd : fits N dst = true)
    (p : Pick L X L1) (ht : Tr P f vs.toArray w0 (X :: L1) R) (h : ∀ v L', R v L' → GL P Q w0 N false fs ops rest (upd F dst v) L') :
    GL P Q w0 N false fs ops (⟨dst, .call { callee := .value (.func f), args := xs.toArray, argTypes := argTypes }, ty, pos, after, none⟩ :: rest) F L := GL.front p (GL.call hv hd ht h)
theorem yielded_undef {a : Act} {j : Nat} {d : Tmp} (hf : Fr N a F) (hj : (ops[j]?).bind (·.dst) = some d) (hl : look F d = some undef) : yielded ops a.tmps j = none := by
  have := hf.val d _ hl
  simp [yielded, hj, this, undef]
/-- the guard's own operation was not wanted -/
theorem GL.unwantU {q : Bool} {dd : Tmp} {op : Op} {j : Nat} {want : Bool} {d : Tmp} (hj : (ops[j]?).bind (·.dst) = some d) (hl : look F d = some undef)
    (hd : Nat.blt dd N = true) (h : GL P Q w0 N q fs ops rest ((dd, undef) :: F) L) : GL P Q w0 N q fs ops (⟨some dd, op, ty, pos, after, some (j, want)⟩ :: rest) F L := by
  have key : ∀ {a : Act}, Fr N a F → ¬ (Region.wanted ⟨some dd, op, ty, pos, after, some (j, want)⟩ (yielded ops a.tmps) = true) := by
    intro a hf hc
    simp only [Region.wanted, yielded_undef hf hj hl] at hc
    cases hc
  cases q with
  | false =>
    refine ⟨fun a w hf hs => ?_⟩
    unfold wpList
    rw [if_neg (key hf)]
    exact h.go _ _ (hf.put (some dd) undef hd) hs
  | true =>
    refine ⟨fun a hf => ?_⟩
    unfold wpQuiet
    rw [if_neg (key hf)]
    exact h.go _ (hf.put (some dd) undef hd)
/-! several results -/
structure Res1 (P : Program) (w0 : World) (N : Nat) (F : Env) (L : List Asn) (r : ResultVar) (v : Value) : Prop where
  run : ∀ a w, Fr N a F → St w0 w L → (∃ t, r = .tmp t ∧ a.tmps.getD t undef = v) ∨ ∃ d t ad, r = .cell d t ∧ a.tmps.getD d undef = .pointer (some ad) ∧ (loadVar t ad).run P w = .ok v w
theorem Res1.tmp {t : Tmp} {v : Value} (hl : look F t = some v) : Res1 P w0 N F L (.tmp t) v := ⟨fun a w hf hs => by
  have := hf.val t v hl
  exact .inl ⟨t, rfl, by simp [Array.getD_eq_getD_getElem?, this]⟩⟩
theorem Res1.cell {d : Tmp} {t bt : TypeId} {g size : Nat} {zc cs : List Value} {p : Addr} [hT : TyOk P t true size zc] (hl : look F d = some (.pointer (some p))) (hp : p = ⟨g, 0, none⟩) (hb : BlkRd w0 L g bt cs) (hn : cs.length = size) : Res1 P w0 N F L (.cell d t) (.agg cs.toArray) := ⟨fun a w hf hs => by
  have h1 := hf.val d _ hl
  subst hp
  have hb' := hb.go w hs
  have h2 := run_loadVar_agg (P := P) (w := w) hT (a := ⟨g, 0, none⟩) cs hn (fun j u hj => by rw [add_mk, cell_of_heap hb']; simpa using hj)
  exact .inr ⟨d, t, _, rfl, by simp [Array.getD_eq_getD_getElem?, h1], h2⟩⟩
theorem Res1.cell1 {d : Tmp} {t bt : TypeId} {g : Nat} {zc : List Value} {v : Value} {p : Addr} [hT : TyOk P t false 1 zc] (hl : look F d = some (.pointer (some p))) (hp : p = ⟨g, 0, none⟩) (hb : BlkRd w0 L g bt [v]) : Res1 P w0 N F L (.cell d t) v := ⟨fun a w hf hs => by
  have h1 := hf.val d _ hl
  subst hp
  have hb' := hb.go w hs
  have h2 := run_loadVar_one (P := P) (w := w) hT (a := ⟨g, 0, none⟩) (v := v) (by rw [cell_of_heap hb']; rfl)
  exact .inr ⟨d, t, _, rfl, by simp [Array.getD_eq_getD_getElem?, h1], h2⟩⟩
theorem GE.res2 {fn : Func} {R : Value → List Asn → Prop} {r1 r2 : ResultVar} {v1 v2 : Value} {e : Exit} (he : e = .ret ∨ e = .normal) (hr : fn.results = #[r1, r2]) (h1 : Res1 P w0 N F L r1 v1) (h2 : Res1 P w0 N F L r2 v2) (hs : Sub L L') (hR : R (.tuple #[v1, v2]) L') :
    GE P (bodyPost P fn (RR w0 R)) w0 N [] e F L := GE.ret_run he (fun a w hf hS => by
  have a1 := h1.run a w hf hS
  have a2 := h2.run a w hf hS
  unfold results
  rw [hr]
  rcases a1 with ⟨_, rfl, a1⟩ | ⟨_, _, _, rfl, b1, a1⟩ <;> rcases a2 with ⟨_, rfl, a2⟩ | ⟨_, _, _, rfl, b2, a2⟩ <;> (simp [Array.getD_eq_getD_getElem?, asAddr] at *; simp [asAddr, *])) hs hR
theorem GE.res3 {fn : Func} {R : Value → List Asn → Prop} {r1 r2 r3 : ResultVar} {v1 v2 v3 : Value} {e : Exit} (he : e = .ret ∨ e = .normal) (hr : fn.results = #[r1, r2, r3]) (h1 : Res1 P w0 N F L r1 v1) (h2 : Res1 P w0 N F L r2 v2) (h3 : Res1 P w0 N F L r3 v3) (hs : Sub L L') (hR : R (.tuple #[v1, v2, v3]) L') :
    GE P (bodyPost P fn (RR w0 R)) w0 N [] e F L := GE.ret_run he (fun a w hf hS => by
  have a1 := h1.run a w hf hS
  have a2 := h2.run a w hf hS
  have a3 := h3.run a w hf hS
  unfold results
  rw [hr]
  rcases a1 with ⟨_, rfl, a1⟩ | ⟨_, _, _, rfl, b1, a1⟩ <;> rcases a2 with ⟨_, rfl, a2⟩ | ⟨_, _, _, rfl, b2, a2⟩ <;> rcases a3 with ⟨_, rfl, a3⟩ | ⟨_, _, _, rfl, b3, a3⟩ <;> (simp [Array.getD_eq_getD_getElem?, asAddr] at *; simp [asAddr, *])) hs hR
theorem GE.res4 {fn : Func} {R : Value → List Asn → Prop} {r1 r2 r3 r4 : ResultVar} {v1 v2 v3 v4 : Value} {e : Exit} (he : e = .ret ∨ e = .normal) (hr : fn.results = #[r1, r2, r3, r4]) (h1 : Res1 P w0 N F L r1 v1) (h2 : Res1 P w0 N F L r2 v2) (h3 : Res1 P w0 N F L r3 v3) (h4 : Res1 P w0 N F L r4 v4) (hs : Sub L L') (hR : R (.tuple #[v1, v2, v3, v4]) L') :
    GE P (bodyPost P fn (RR w0 R)) w0 N [] e F L := GE.ret_run he (fun a w hf hS => by
  have a1 := h1.run a w hf hS
  have a2 := h2.run a w hf hS
  have a3 := h3.run a w hf hS
  have a4 := h4.run a w hf hS
  unfold results
  rw [hr]
  rcases a1 with ⟨_, rfl, a1⟩ | ⟨_, _, _, rfl, b1, a1⟩ <;> rcases a2 with ⟨_, rfl, a2⟩ | ⟨_, _, _, rfl, b2, a2⟩ <;> rcases a3 with ⟨_, rfl, a3⟩ | ⟨_, _, _, rfl, b3, a3⟩ <;> rcases a4 with ⟨_, rfl, a4⟩ | ⟨_, _, _, rfl, b4, a4⟩ <;> (simp [Array.getD_eq_getD_getElem?, asAddr] at *; simp [asAddr, *])) hs hR
theorem row.clip {α : Type} {E : El α} {A : Option Addr} {c : Nat} {xs : List α} {k : Heap} (h : row E A c xs k) (n : Nat) (h1 : xs.length ≤ n) (h2 : n ≤ c) : row E A n xs k := by
  rcases h with ⟨rfl, rfl⟩ | ⟨g, cur, rfl, hg, hl, hm, hs, hx⟩
  · exact .inl ⟨by omega, rfl⟩
  · exact .inr ⟨g, cur, rfl, hg, h1, by omega, Nat.le_trans (Nat.mul_le_mul_right _ h2) hs, hx⟩
theorem row.le {α : Type} {E : El α} {A : Option Addr} {c : Nat} {xs : List α} {k : Heap} (h : row E A c xs k) : xs.length ≤ c ∧ c ≤ maxLen := by
  rcases h with ⟨rfl, rfl⟩ | ⟨g, cur, rfl, hg, hl, hm, hs, hx⟩
  · exact ⟨by simp, by simp [maxLen]⟩
  · exact ⟨hl, hm⟩
theorem GL.row_clip {l : List Oper} {α : Type} {E : El α} {A : Option Addr} {c : Nat} {xs : List α} (p : Pick L (row E A c xs) L1) (h : GL P Q w0 N false fs ops l F (row E A xs.length xs :: L1)) : GL P Q w0 N false fs ops l F L :=
  GL.state (fun _ hs => (hs.pick p).conv fun _ hk => hk.clip _ (Nat.le_refl _) hk.le.1) h
theorem GL.row_cap {l : List Oper} {α : Type} {E : El α} {A : Option Addr} {c : Nat} {xs : List α} (p : Pick L (row E A c xs) L1) (h : xs.length ≤ c → c ≤ 9223372036854775807 → GL P Q w0 N false fs ops l F L) : GL P Q w0 N false fs ops l F L :=
  GL.fact (fun w hs => (Rd.of_pick p).le w hs) (fun h' => h h'.1 (Nat.le_trans h'.2 (by decide)))
theorem GC.row_cap {l : Code} {α : Type} {E : El α} {A : Option Addr} {c : Nat} {xs : List α} (p : Pick L (row E A c xs) L1) (h : xs.length ≤ c → c ≤ 9223372036854775807 → GC P Q w0 N fs l F L) : GC P Q w0 N fs l F L :=
  GC.fact (fun w hs => (Rd.of_pick p).le w hs) (fun h' => h h'.1 (Nat.le_trans h'.2 (by decide)))
theorem GC.rd_cap {l : Code} {α : Type} {E : El α} {A : Option Addr} {c : Nat} {xs : List α} (p : Rd w0 L E A c xs) (h : xs.length ≤ c → c ≤ 9223372036854775807 → GC P Q w0 N fs l F L) : GC P Q w0 N fs l F L :=
  GC.fact (fun w hs => p.le w hs) (fun h' => h h'.1 (Nat.le_trans h'.2 (by decide)))
theorem Tr.rd_cap {f : FuncId} {args : Array Value} {R : Value → List Asn → Prop} {α : Type} {E : El α} {A : Option Addr} {c : Nat} {xs : List α} (p : Rd w0 L E A c xs) (h : xs.length ≤ c → c ≤ 9223372036854775807 → Tr P f args w0 L R) : Tr P f args w0 L R :=
  Tr.fact (fun w hs => p.le w hs) (fun h' => h h'.1 (Nat.le_trans h'.2 (by decide)))
theorem GC.row_take {l : Code} {α : Type} {E : El α} {A : Option Addr} {c : Nat} {xs : List α} (n : Nat) (p : Pick L (row E A c xs) L1) (h : GC P Q w0 N fs l F (row E A c (xs.take n) :: L1)) : GC P Q w0 N fs l F L :=
  GC.state (fun _ hs => (hs.pick p).conv fun _ hk => row.take hk n) h
/-- 'clear(x[k:])' -/
theorem GL.clear {α : Type} {E : El α} {st : TypeId} {bytes : Nat} {z : α} {A : Option Addr} {c c' k n : Nat} {xs : List α} [hE : SlOk P st E bytes z] (hx : ev F x = some (.slice (if c = k then A else A.map (·.add (k * E.size))) n c'))
    (pk : Pick L (row E A c xs) L1) (hn : n = xs.length - k) (h : GL P Q w0 N false fs ops rest (upd F dst (.tuple #[])) (row E A c (xs.take k) :: L1)) (hd : fits N dst = true) :
    GL P Q w0 N false fs ops (⟨dst, .call { callee := .builtin .clear, args := #[x], argTypes := #[st] }, ty, pos, after, none⟩ :: rest) F L := by
  refine GL.step (R := fun v L' => v = .tuple #[] ∧ L' = row E A c (xs.take k) :: L1) rfl hd (fun a w hf hs => ?_) (by rintro _ _ ⟨rfl, rfl⟩; exact h)
  have hs' := hs.pick pk
  subst hn
  by_cases h0 : xs.length - k = 0
  · refine ⟨_, w, _, ?_, ⟨rfl, rfl⟩, hs'.conv fun _ hk => row.take hk k⟩
    rw [h0] at hx
    cases hA : (if c = k then A else A.map (·.add (k * E.size))) <;> rw [hA] at hx <;> simp [execOp, resolve, invoke, builtin, hf.ev hx, Builtin.clear_, run_underlying hE.und]
  · rcases hs'.row_cases with ⟨_, h1⟩ | ⟨g, cur, rfl, hg0, hg, hl, hm, hcs, htk⟩
    · subst h1; simp at h0
    · rw [if_neg (by omega)] at hx
      obtain ⟨zv, hz, hrz⟩ := hE.el.run_zero
      have hzs : zv.cells.size = E.size := by rw [← Array.length_toList, hz, E.enc_length]
      have hkx : k * E.size + (xs.length - k) * E.size ≤ cur.size := by
        rw [← Nat.add_mul, show k + (xs.length - k) = xs.length by omega]
        exact Nat.le_trans (Nat.mul_le_mul_right _ hl) hcs
      have hl1 : (Builtin.zeroCells zv.cells (xs.length - k)).toList.length = (xs.length - k) * E.size := by simp [size_zeroCells, hzs]
      have h1 : ∀ v ∈ (Builtin.zeroCells zv.cells (xs.length - k)).toList, v.oneCell' = true := by
        intro v hv
        simp only [Builtin.zeroCells, Array.toList_map, List.mem_map] at hv
        obtain ⟨i, _, rfl⟩ := hv
        have hpos := E.hpos
        have hm' : i % zv.cells.size < zv.cells.toList.length := by rw [Array.length_toList, hzs]; exact Nat.mod_lt _ hpos
        have : zv.cells[i % zv.cells.size]! = zv.cells.toList[i % zv.cells.size] := by
          rw [Array.getElem!_eq_getD, Array.getD_eq_getD_getElem?, ← Array.getElem?_toList, List.getElem?_eq_getElem hm']; rfl
        rw [this]
        exact E.hone z _ (by show _ ∈ E.enc z; rw [← hz]; exact List.getElem_mem _)
      have hrun := run_storeCells_at (P := P) g (k * E.size) E.ty (Builtin.zeroCells zv.cells (xs.length - k)).toList 0 cur w hg (by rw [hl1]; omega) h1
      refine ⟨_, _, _, ?_, ⟨rfl, rfl⟩, hs'.setRow_row (cur' := (cur.toList.take (k * E.size) ++ (Builtin.zeroCells zv.cells (xs.length - k)).toList ++ cur.toList.drop (k * E.size + (xs.length - k) * E.size)).toArray) (.inl (by intro e; subst e; simp at h0)) hg (by simp; omega) ?_ ?_⟩
      · have hx' : ev F x = some (.slice (some ⟨g, k * E.size, none⟩) (xs.length - k) c') := by simpa [add_mk] using hx
        obtain ⟨q, hq⟩ : ∃ q, xs.length - k = q + 1 := ⟨xs.length - k - 1, by omega⟩
        rw [hl1] at hrun
        simp only [Nat.add_zero] at hrun
        rw [hq] at hx' hrun ⊢
        simp [execOp, resolve, invoke, builtin, hf.ev hx', Builtin.clear_, run_underlying hE.und, hrz, hrun]
      · simp [size_zeroCells, hzs]; omega
      · have ht : (xs.take k).length = k := by simp; omega
        rw [ht]
        have e : (cur.toList.take (k * E.size)) = E.flat (xs.take k) := by
          have e1 : E.flat (xs.take k) = (E.flat xs).take (k * E.size) := by
            have : E.flat xs = E.flat (xs.take k) ++ E.flat (xs.drop k) := by rw [← E.flat_append, List.take_append_drop]
            rw [this, List.take_left' (by rw [E.flat_length, ht])]
          rw [e1, ← htk, List.take_take, Nat.min_eq_left (Nat.mul_le_mul_right _ (by omega))]
        rw [List.toList_toArray, List.append_assoc, e, List.take_left' (by rw [E.flat_length, ht])]
end
section any
variable {P : Program} {Q : Exit → Act → World → Prop} {w0 : World} {N : Nat} {fs : List Kf} {ops : Array Oper} {eff : Array Bool} {fuel : Nat} {listed : Array Bool} {F : Env} {L : List Asn}
theorem GA.unwantU {ps : _} (i : Nat) (S : Array Bool) {dd : Tmp} {op : Op} {ty : TypeId} {pos : String} {after : Array Edge} {j : Nat} {want : Bool} {d : Tmp} (hi : ops[i]? = some ⟨some dd, op, ty, pos, after, some (j, want)⟩)
    (hj : (ops[j]?).bind (·.dst) = some d) (hl : look F d = some undef) (hd : Nat.blt dd N = true) (hsel : Region.noSelect ops = true) (heff : eff.getD i false = false)
    (he : Region.early .any ops listed S i = true) (hr : (Region.ready .any ops listed).contains i = true) (hQ : ∀ c a w, Kn P Q fs (.panic c) (a.put (some dd) undef) w → Kn P Q fs (.panic c) a w)
    (h : GA P Q w0 N fs ops eff ps fuel (listed.setIfInBounds i true) ((dd, undef) :: F) L) : GA P Q w0 N fs ops eff ps (fuel + 1) listed F L :=
  GA.skip S hi hsel rfl hd heff he hr hQ (fun a hF => by simp [Region.wanted, yielded_undef hF hj hl]) h
end any
end SG
