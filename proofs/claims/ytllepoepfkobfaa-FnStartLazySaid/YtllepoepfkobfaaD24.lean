/- Contracts: what the nodes of a graph mean, of both. -/
import Derived.Test.YtllepoepfkobfaaD8
import Derived.Test.YtllepoepfkobfaaD14
import Derived.Test.YtllepoepfkobfaaD17
import Derived.Test.YtllepoepfkobfaaD20
import Derived.Test.YtllepoepfkobfaaPB
namespace SG
open Go Go.RowKit Go.Proofs
set_option linter.unusedVariables false
set_option linter.unusedSimpArgs false
set_option maxRecDepth 100000
/-! lists of lists -/
def li (ls : List LiM) : List (List Int) := ls.map LiM.xs
@[simp] theorem li_length (ls : List LiM) : (li ls).length = ls.length := by simp [li]
theorem li_get {ls : List LiM} {i : Nat} (h : i < (li ls).length) : (li ls)[i] = (ls[i]'(by simpa using h)).xs := by simp [li]
def LiM.rowA (l : LiM) : Asn := row intE l.a l.c l.xs
def rowsA (ls : List LiM) : Asn := Sat (ls.map LiM.rowA)
theorem GC.rows0 {P : Program} {Q : Exit → Act → World → Prop} {w0 : World} {N : Nat} {fs : List Kf} {F : Env} {L : List Asn} {c : Code} (h : GC P Q w0 N fs c F (rowsA [] :: L)) : GC P Q w0 N fs c F L := GC.state (fun _ hs => hs.sat0) h
theorem St.rows_snoc {w0 w : World} {L : List Asn} {ls : List LiM} {m : LiM} (h : St w0 w (m.rowA :: rowsA ls :: L)) : St w0 w (rowsA (ls ++ [m]) :: L) := by
  have := h.sat_snoc
  unfold rowsA
  rw [List.map_append]
  exact this
theorem GE.rows_snoc {P : Program} {Q : Exit → Act → World → Prop} {w0 : World} {N : Nat} {fs : List Kf} {F : Env} {L L1 L2 : List Asn} {e : Exit} {ls : List LiM} (m : LiM) (p : Pick L m.rowA L1) (q : Pick L1 (rowsA ls) L2) (h : GE P Q w0 N fs e F (rowsA (ls ++ [m]) :: L2)) : GE P Q w0 N fs e F L :=
  GE.state (fun w hs => St.rows_snoc (St.pick (A := rowsA ls) (L := m.rowA :: L1) (L' := m.rowA :: L2) (hs.pick p) (.tail q) |>.pick (.tail .head))) h
theorem Rd.of_rows {w0 : World} {L L1 : List Asn} {ls : List LiM} (p : Pick L (rowsA ls) L1) {m : LiM} (hm : m ∈ ls) : Rd w0 L intE m.a m.c m.xs := ⟨fun w hs => by
  have h := (hs.pick p).flat
  obtain ⟨L2, p2⟩ := Pick.mem (List.mem_map_of_mem (f := LiM.rowA) hm)
  exact (Rd.of_pick (p2.app_left (X := L1))).go w h⟩
theorem fill2_same {α : Type} (ys : List α) (z : α) (i n : Nat) (hi : i < n) : ys ++ List.replicate (n - i) z = (ys ++ [z]) ++ List.replicate (n - (i + 1)) z := by
  have e : n - i = (n - (i + 1)) + 1 := by omega
  rw [e, List.replicate_succ, List.append_assoc]; rfl
/-! the program -/
/-! the reference -/
end SG
