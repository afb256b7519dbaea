/- More rules: structs of numbers compared; a slice held against nil. -/
import Derived.Test.YtllepoepfkobfaaOp5
import Derived.Laws.StructEq
namespace SG
open Go Go.RowKit Go.Proofs
set_option linter.unusedVariables false
set_option linter.unusedSimpArgs false
def iVals (xs : List Int) : List Value := xs.map fun n => .int .i64 n
def isI64 (P : Program) (t : TypeId) : Bool := match P.underlying t with
  | some (.int .i64) => true
  | _ => false
theorem isI64_spec {P : Program} {t : TypeId} (h : isI64 P t = true) : P.underlying t = some (.int .i64) := by
  unfold isI64 at h
  split at h
  · assumption
  · cases h
/-- a struct whose fields are all ints -/
class IntStruct (P : Program) (t : TypeId) (n : Nat) : Prop where
  und : P.underlying t = some (.struct (P.fieldsOf t))
  held : P.stoodInHeld t = false
  guard : P.eqGuardType P.depth t = false
  fields : ((P.fieldsOf t).toList.map fun f => (f.offset, (f.name != "_") && isI64 P f.type)) = (List.range n).map fun i => (i, true)
section
variable {P : Program}
theorem run_part_int {t : TypeId} {cs : Array Value} {off : Nat} {v : Value} (h : P.underlying t = some (.int .i64)) (hv : cs[off]? = some v) (w : World) : (part t cs off).run P w = .ok v w := by
  simp [part, isAgg, run_underlying h, hv]
theorem run_eqFields_ints (xs ys : List Int) (hl : ys.length = xs.length) (w : World) : ∀ (fs : List Field) (k : Nat), k + fs.length = xs.length → (fs.map fun f => (f.offset, (f.name != "_") && isI64 P f.type)) = (List.range fs.length).map (fun i => (k + i, true)) →
    (Op.eqFields 9999 (iVals xs).toArray (iVals ys).toArray fs).run P w = .ok (decide (xs.drop k = ys.drop k)) w := by
  intro fs
  induction fs with
  | nil =>
    intro k hk _
    simp at hk
    rw [List.drop_eq_nil_of_le (by omega), List.drop_eq_nil_of_le (by omega)]
    simp [Op.eqFields]
  | cons f fs ih =>
    intro k hk hf
    simp only [List.length_cons] at hk
    rw [List.length_cons, List.range_succ_eq_map] at hf
    simp only [List.map_cons, List.map_map, List.cons.injEq, Prod.mk.injEq, Nat.add_zero, Bool.and_eq_true] at hf
    obtain ⟨⟨ho, hn, ht0⟩, hr⟩ := hf
    have ht := isI64_spec ht0
    have hn' : f.name ≠ "_" := by simpa using hn
    have hkx : k < xs.length := by omega
    have hky : k < ys.length := by omega
    have h1 : (iVals xs).toArray[f.offset]? = some (.int .i64 xs[k]) := by rw [ho]; simp [iVals, hkx]
    have h2 : (iVals ys).toArray[f.offset]? = some (.int .i64 ys[k]) := by rw [ho]; simp [iVals, hky]
    have ih' := ih (k + 1) (by omega) (by rw [hr]; apply List.map_congr_left; intro i _; simp; omega)
    unfold Op.eqFields
    rw [if_pos hn']
    simp only [Sem.run_bind, run_part_int ht h1, run_part_int ht h2, Result.andThen_ok]
    rw [show (9999 : Nat) = 9998 + 1 from rfl, run_equalIn_int w 9998 f.type .i64 .i64 _ _ ht]
    simp only [Result.andThen_ok]
    have ex : xs.drop k = xs[k] :: xs.drop (k + 1) := (List.getElem_cons_drop hkx).symm
    have ey : ys.drop k = ys[k] :: ys.drop (k + 1) := (List.getElem_cons_drop hky).symm
    by_cases he : xs[k] = ys[k]
    · have e3 : (xs.drop k = ys.drop k) ↔ (xs.drop (k + 1) = ys.drop (k + 1)) := by
        rw [ex, ey, he]
        exact ⟨fun h => by injection h, fun h => by rw [h]⟩
      rw [he]
      simp only [beq_self_eq_true, Bool.not_true, Bool.false_eq_true, if_false]
      rw [show (9998 : Nat) + 1 = 9999 from rfl, ih', decide_eq_decide.2 e3]
    · have e3 : ¬ (xs.drop k = ys.drop k) := by
        rw [ex, ey]
        intro h
        injection h with h _
        exact he h
      rw [decide_eq_false e3]
      simp [he]
theorem run_eq_ints {t : TypeId} {n : Nat} [hs : IntStruct P t n] {xs ys : List Int} (hx : xs.length = n) (hy : ys.length = n) (w : World) : (Op.equalIn 10000 t (.agg (iVals xs).toArray) (.agg (iVals ys).toArray)).run P w = .ok (decide (xs = ys)) w := by
  rw [show (10000 : Nat) = 9999 + 1 from rfl, run_equalIn_agg w 9999 t _ _ hs.und hs.held]
  have hfl : (P.fieldsOf t).toList.length = n := by have := congrArg List.length hs.fields; simpa using this
  have hf := hs.fields
  have := run_eqFields_ints (P := P) xs ys (by omega) w (P.fieldsOf t).toList 0 (by omega) (by rw [hf, hfl]; simp)
  simpa using this
end
theorem run_equalIn_nil {P : Program} {A : Option Addr} {n c : Nat} {t e : TypeId} (ht : P.underlying t = some (.slice e)) (d : Nat) (w : World) : (Op.equalIn (d + 1) t (.slice A n c) (.slice none 0 0)).run P w = .ok A.isNone w := by
  rw [Op.equalIn, Sem.run_bind, run_underlying ht]
  cases A <;> rfl
theorem run_equal_nil {P : Program} {A : Option Addr} {n c : Nat} {t e : TypeId} (ht : P.underlying t = some (.slice e)) (w : World) : (Op.equal t (.slice A n c) (.slice none 0 0)).run P w = .ok A.isNone w := run_equalIn_nil ht 9999 w
theorem run_eql_nil {P : Program} {A : Option Addr} {n c : Nat} {t e : TypeId} (ht : P.underlying t = some (.slice e)) (w : World) : (binOp .eql t (.slice A n c) (.slice none 0 0)).run P w = .ok (.bool A.isNone) w := by
  show (do pure (Value.bool (← Op.equal t (.slice A n c) (.slice none 0 0))) : Sem Value).run P w = _
  rw [Sem.run_bind, run_equal_nil ht]
  rfl
section
variable {P : Program} {N : Nat} {F : Env} {dst : Option Tmp} {ty : TypeId} {pos : String} {after : Array Edge} {x y : Operand} {t t' : TypeId} {n : Nat}
theorem Ev.eql_ints (xs ys : List Int) [hs : IntStruct P t n] (hx : ev F x = some (.agg (iVals xs).toArray)) (hy : ev F y = some (.agg (iVals ys).toArray)) (lx : xs.length = n) (ly : ys.length = n) : EvP P N ⟨dst, .binOp .eql t x y t', ty, pos, after, none⟩ F (.bool (decide (xs = ys))) := ⟨rfl, fun a w hf => by
  simp only [execOp, hf.ev hx, hf.ev hy, Sem.run_map, Sem.run_bind, run_eqGuard_agg w _ t _ _ _ _ hs.guard, Result.andThen_ok, run_eql_struct, run_eq_ints lx ly w]
  rfl⟩
theorem Ev.neq_ints (xs ys : List Int) [hs : IntStruct P t n] (hx : ev F x = some (.agg (iVals xs).toArray)) (hy : ev F y = some (.agg (iVals ys).toArray)) (lx : xs.length = n) (ly : ys.length = n) : EvP P N ⟨dst, .binOp .neq t x y t', ty, pos, after, none⟩ F (.bool (!decide (xs = ys))) := ⟨rfl, fun a w hf => by
  simp only [execOp, hf.ev hx, hf.ev hy, Sem.run_map, Sem.run_bind, run_eqGuard_agg w _ t _ _ _ _ hs.guard, Result.andThen_ok, run_neq_struct, run_eq_ints lx ly w]
  rfl⟩
theorem Ev.eql_nil {A : Option Addr} {k c : Nat} [ht : SlTy P t] (hx : ev F x = some (.slice A k c)) (hy : ev F y = some (.slice none 0 0)) : EvP P N ⟨dst, .binOp .eql t x y t', ty, pos, after, none⟩ F (.bool A.isNone) := ⟨rfl, fun a w hf => by
  obtain ⟨e, he⟩ := ht.und
  have h1 := run_eql_nil (A := A) (n := k) (c := c) he w
  simp [execOp, hf.ev hx, hf.ev hy, eqGuard, h1]⟩
end
instance : IntStruct Try.prog 128 5 := ⟨by kernel_rfl, by kernel_rfl, by kernel_rfl, by kernel_rfl⟩
instance : IntStruct Try.prog 45 3 := ⟨by kernel_rfl, by kernel_rfl, by kernel_rfl, by kernel_rfl⟩
def Part.ints (p : Part) : List Int := [p.kind, p.a, p.b, p.c, p.n]
theorem Part.ints_eq {p q : Part} : p.ints = q.ints ↔ p = q := by
  obtain ⟨a1, a2, a3, a4, a5⟩ := p
  obtain ⟨b1, b2, b3, b4, b5⟩ := q
  simp [Part.ints]
def Act3.ints (p : Act3) : List Int := [p.kind, p.node, p.value]
theorem Act3.ints_eq {p q : Act3} : p.ints = q.ints ↔ p = q := by
  obtain ⟨a1, a2, a3⟩ := p
  obtain ⟨b1, b2, b3⟩ := q
  simp [Act3.ints]
end SG
