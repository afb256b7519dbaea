/- Contracts: OrderParts of the program; ValidFormula of the reference. -/
import Derived.Test.YtllepoepfkobfaaD11
import Derived.Test.YtllepoepfkobfaaPA
namespace SG
open Go Go.RowKit Go.Proofs
set_option linter.unusedVariables false
set_option linter.unusedSimpArgs false
set_option maxRecDepth 100000
def Part.cells (p : Part) : List Value := [.int .i64 p.kind, .int .i64 p.a, .int .i64 p.b, .int .i64 p.c, .int .i64 p.n]
theorem Part.cells_set (p : Part) (x : Nat) (n : Int) (h : x < 5) : p.cells.set x (.int .i64 n) = (p.put x n).cells := by
  match x, h with
  | 0, _ => rfl
  | 1, _ => rfl
  | 2, _ => rfl
  | 3, _ => rfl
  | 4, _ => rfl
theorem ptr3_get (g x : Nat) (h : x < [some ((⟨g, 0, none⟩ : Addr).add 1), some ((⟨g, 0, none⟩ : Addr).add 2), some ((⟨g, 0, none⟩ : Addr).add 3)].length) : [some ((⟨g, 0, none⟩ : Addr).add 1), some ((⟨g, 0, none⟩ : Addr).add 2), some ((⟨g, 0, none⟩ : Addr).add 3)][x] = some ⟨g, x + 1, none⟩ := by
  match x, h with
  | 0, _ => rfl
  | 1, _ => rfl
  | 2, _ => rfl
end SG
