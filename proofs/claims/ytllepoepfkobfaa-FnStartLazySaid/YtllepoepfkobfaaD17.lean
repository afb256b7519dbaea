/- Contracts: the reference's value of a formula, and what it reads; the program's ReadsOf. -/
import Derived.Test.YtllepoepfkobfaaD14
import Derived.Test.YtllepoepfkobfaaD16
import Derived.Test.YtllepoepfkobfaaPA
namespace SG
open Go Go.RowKit Go.Proofs
set_option linter.unusedVariables false
set_option linter.unusedSimpArgs false
set_option maxRecDepth 100000
/-- a slice told by another list of its length -/
theorem Tr.len2 {P : Program} {f : FuncId} {a : Value} {n : Nat} {B : Option Addr} {d : Nat} {w0 : World} {L : List Asn} {R : Value → List Asn → Prop} (xs : List Int) (h : n = xs.length) (hT : Tr P f #[a, .slice B xs.length d] w0 L R) : Tr P f #[a, .slice B n d] w0 L R := by rw [h]; exact hT
end SG
